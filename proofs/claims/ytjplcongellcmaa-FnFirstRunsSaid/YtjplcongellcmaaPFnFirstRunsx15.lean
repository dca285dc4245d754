/- What each Go function that the statement FnFirstRuns reaches answers, proved call by call. No condition beyond those that the theorems print. (Written by wip/tools/xprint.py of this repo, over the kit's print.) -/
import Derived.Test.YtjplcongellcmaaPFnFirstRunsx0
import Derived.Test.YtjplcongellcmaaPFnFirstRunsx1
import Derived.Test.YtjplcongellcmaaPFnFirstRunsx4
import Derived.Test.YtjplcongellcmaaPFnFirstRunsx5
import Derived.Test.YtjplcongellcmaaPFnFirstRunsx7
import Derived.Test.YtjplcongellcmaaPFnFirstRunsx8
import Derived.Test.YtjplcongellcmaaPFnFirstRunsx9
import Derived.Test.YtjplcongellcmaaPFnFirstRunsx10
import Derived.Test.YtjplcongellcmaaPFnFirstRunsx11
import Derived.Test.YtjplcongellcmaaPFnFirstRunsx12
import Derived.Test.YtjplcongellcmaaPFnFirstRunsx13
import Derived.Test.YtjplcongellcmaaPFnFirstRunsx14
namespace Go.Proofs.Ytjplcongellcmaa.PFnFirstRuns
open Go.RowKit Go.Proofs.YtjplcongellcmaaW.PrintWords Go.Proofs.YtjplcongellcmaaW.PrintLast Go.Proofs.YtjplcongellcmaaW.PrintMore
attribute [local go_sem] max2_int min2_int max_two min_two max_three min_three max_four min_four   -- for this text's walks alone
set_option linter.unusedVariables false
set_option linter.unusedSimpArgs false

set_option maxHeartbeats 200000000 in
set_option maxRecDepth 100000 in
theorem laws_FnFirstRuns.calls (k : Nat) (A0 : Option Addr) (c0 : Nat) (l0 : List Int) (A1 : Option Addr) (c1 : Nat) (l1 : List Int) (r : Bool) (w : World) (hr0 : Kd.C (Kd.int .u8) w A0 l0.length l0) (hc0 : l0.length ≤ c0) (hr1 : Kd.C (Kd.int .u8) w A1 l1.length l1) (hc1 : l1.length ≤ c1) (h : laws_FnFirstRuns.f k l0 l1 = some r) (hr_ : r = true) :
  Calls Try.prog 7 #[.slice A0 l0.length c0, .slice A1 l1.length c1] w fun e w' => e = .returned (.bool r) ∧ Below w.heap.size w w' := by
 have HRT := xA hr_
 clear hr_
 have hu62 := Try.underlying62
 have hu46 := Try.underlying46
 have HR0 := xA hr0
 have HC0 := xA hc0
 clear hr0 hc0
 have HR1 := xA hr1
 have HC1 := xA hc1
 clear hr1 hc1
 have HB := xA (Below.refl w.heap.size w)
 have H : ((laws_big.f l0 l1).bind fun t516 => (if t516 = true then (some true) else ((spec_DrawExactFirst.f k l0).bind fun bt517 => ((impl_RunFirst.f k bt517.1 bt517.2.1 bt517.2.2.1 bt517.2.2.2.1 bt517.2.2.2.2.1 bt517.2.2.2.2.2.1 bt517.2.2.2.2.2.2).bind fun bt527 => ((spec_RunFirst.f k bt517.1 bt517.2.1 bt517.2.2.1 bt517.2.2.2.1 bt517.2.2.2.2.1 bt517.2.2.2.2.2.1 bt517.2.2.2.2.2.2).bind fun bt531 => ((impl_ExactFirst.f k bt517.1 bt517.2.1 bt517.2.2.1 bt517.2.2.2.1 bt517.2.2.2.2.1 bt517.2.2.2.2.2.1 bt517.2.2.2.2.2.2).bind fun bt535 => ((spec_ExactFirst.f k bt517.1 bt517.2.1 bt517.2.2.1 bt517.2.2.2.1 bt517.2.2.2.2.1 bt517.2.2.2.2.2.1 bt517.2.2.2.2.2.2).bind fun bt539 => ((impl_CountFits.f k bt517.1 bt517.2.1 bt517.2.2.1 bt517.2.2.2.1 bt517.2.2.2.2.1 bt517.2.2.2.2.2.1 bt517.2.2.2.2.2.2).bind fun bt543 => ((spec_CountFits.f k bt517.1 bt517.2.1 bt517.2.2.1 bt517.2.2.2.1 bt517.2.2.2.2.1 bt517.2.2.2.2.2.1 bt517.2.2.2.2.2.2).bind fun bt545 => ((impl_ErrorBound.f k bt517.1 bt517.2.1 bt517.2.2.1 bt517.2.2.2.1 bt517.2.2.2.2.1).bind fun bt547 => ((spec_ErrorBound.f k bt517.1 bt517.2.1 bt517.2.2.1 bt517.2.2.2.1 bt517.2.2.2.2.1).bind fun bt550 => ((impl_IsShrinking.f bt517.1 bt517.2.1 bt517.2.2.1 bt517.2.2.2.1 bt517.2.2.2.2.1).bind fun bt553 => ((spec_IsShrinking.f bt517.1 bt517.2.1 bt517.2.2.1 bt517.2.2.2.1 bt517.2.2.2.2.1).bind fun bt555 => (if (bt527.2 != bt531.2) = true then (laws_FnFirstRuns.j0 k l1 bt517.2.2.2.2.2.1 bt517.2.2.2.2.2.2 bt527.1 bt527.2 bt535.1 bt535.2 bt543.1 bt547.1 bt547.2.1 bt547.2.2 true bt517.1 bt517.2.1 bt517.2.2.1 bt517.2.2.2.1 bt517.2.2.2.2.1) else ((laws_uSame.f k bt527.1 bt531.1).bind fun t557 => (if t557 = true then (if (bt535.2 != bt539.2) = true then (laws_FnFirstRuns.j0 k l1 bt517.2.2.2.2.2.1 bt517.2.2.2.2.2.2 bt527.1 bt527.2 bt535.1 bt535.2 bt543.1 bt547.1 bt547.2.1 bt547.2.2 true bt517.1 bt517.2.1 bt517.2.2.1 bt517.2.2.2.1 bt517.2.2.2.2.1) else ((laws_uSame.f k bt535.1 bt539.1).bind fun t558 => (if t558 = true then (if (bt543.2 != bt545.2) = true then (laws_FnFirstRuns.j0 k l1 bt517.2.2.2.2.2.1 bt517.2.2.2.2.2.2 bt527.1 bt527.2 bt535.1 bt535.2 bt543.1 bt547.1 bt547.2.1 bt547.2.2 true bt517.1 bt517.2.1 bt517.2.2.1 bt517.2.2.2.1 bt517.2.2.2.2.1) else (if bt543.1 = bt545.1 then (if (bt547.2.2 != bt550.2.2) = true then (laws_FnFirstRuns.j0 k l1 bt517.2.2.2.2.2.1 bt517.2.2.2.2.2.2 bt527.1 bt527.2 bt535.1 bt535.2 bt543.1 bt547.1 bt547.2.1 bt547.2.2 true bt517.1 bt517.2.1 bt517.2.2.1 bt517.2.2.2.1 bt517.2.2.2.2.1) else (if bt547.1 = bt550.1 then (if bt547.2.1 = bt550.2.1 then (if (bt553.2 != bt555.2) = true then (laws_FnFirstRuns.j0 k l1 bt517.2.2.2.2.2.1 bt517.2.2.2.2.2.2 bt527.1 bt527.2 bt535.1 bt535.2 bt543.1 bt547.1 bt547.2.1 bt547.2.2 true bt517.1 bt517.2.1 bt517.2.2.1 bt517.2.2.2.1 bt517.2.2.2.2.1) else (if (bt553.1 != bt555.1) = true then (laws_FnFirstRuns.j0 k l1 bt517.2.2.2.2.2.1 bt517.2.2.2.2.2.2 bt527.1 bt527.2 bt535.1 bt535.2 bt543.1 bt547.1 bt547.2.1 bt547.2.2 true bt517.1 bt517.2.1 bt517.2.2.1 bt517.2.2.2.1 bt517.2.2.2.2.1) else (if (bt543.2 != bt527.2) = true then (laws_FnFirstRuns.j0 k l1 bt517.2.2.2.2.2.1 bt517.2.2.2.2.2.2 bt527.1 bt527.2 bt535.1 bt535.2 bt543.1 bt547.1 bt547.2.1 bt547.2.2 true bt517.1 bt517.2.1 bt517.2.2.1 bt517.2.2.2.1 bt517.2.2.2.2.1) else (if bt535.2 = true then (if bt527.2 = true then ((impl_IsFirst.f bt517.1 bt517.2.1 bt517.2.2.1 bt517.2.2.2.1 bt517.2.2.2.2.1).bind fun t559 => (if (bt553.2 != t559) = true then (laws_FnFirstRuns.j0 k l1 bt517.2.2.2.2.2.1 bt517.2.2.2.2.2.2 bt527.1 bt527.2 bt535.1 bt535.2 bt543.1 bt547.1 bt547.2.1 bt547.2.2 true bt517.1 bt517.2.1 bt517.2.2.1 bt517.2.2.2.1 bt517.2.2.2.2.1) else ((impl_IsFirst.f bt517.1 bt517.2.1 bt517.2.2.1 bt517.2.2.2.1 bt517.2.2.2.2.1).bind fun t560 => ((spec_IsFirst.f bt517.1 bt517.2.1 bt517.2.2.1 bt517.2.2.2.1 bt517.2.2.2.2.1).bind fun t561 => (if (t560 != t561) = true then (laws_FnFirstRuns.j0 k l1 bt517.2.2.2.2.2.1 bt517.2.2.2.2.2.2 bt527.1 bt527.2 bt535.1 bt535.2 bt543.1 bt547.1 bt547.2.1 bt547.2.2 true bt517.1 bt517.2.1 bt517.2.2.1 bt517.2.2.2.1 bt517.2.2.2.2.1) else (if bt553.2 = true then (laws_FnFirstRuns.j0 k l1 bt517.2.2.2.2.2.1 bt517.2.2.2.2.2.2 bt527.1 bt527.2 bt535.1 bt535.2 bt543.1 bt547.1 bt547.2.1 bt547.2.2 (bt547.2.2 != bt553.1) bt517.1 bt517.2.1 bt517.2.2.1 bt517.2.2.2.1 bt517.2.2.2.2.1) else (laws_FnFirstRuns.j0 k l1 bt517.2.2.2.2.2.1 bt517.2.2.2.2.2.2 bt527.1 bt527.2 bt535.1 bt535.2 bt543.1 bt547.1 bt547.2.1 bt547.2.2 (bt547.2.2 != false) bt517.1 bt517.2.1 bt517.2.2.1 bt517.2.2.2.1 bt517.2.2.2.2.1))))))) else (laws_FnFirstRuns.j0 k l1 bt517.2.2.2.2.2.1 bt517.2.2.2.2.2.2 bt527.1 bt527.2 bt535.1 bt535.2 bt543.1 bt547.1 bt547.2.1 bt547.2.2 true bt517.1 bt517.2.1 bt517.2.2.1 bt517.2.2.2.1 bt517.2.2.2.2.1)) else ((impl_IsFirst.f bt517.1 bt517.2.1 bt517.2.2.1 bt517.2.2.2.1 bt517.2.2.2.2.1).bind fun t562 => (if (bt553.2 != t562) = true then (laws_FnFirstRuns.j0 k l1 bt517.2.2.2.2.2.1 bt517.2.2.2.2.2.2 bt527.1 bt527.2 bt535.1 bt535.2 bt543.1 bt547.1 bt547.2.1 bt547.2.2 true bt517.1 bt517.2.1 bt517.2.2.1 bt517.2.2.2.1 bt517.2.2.2.2.1) else ((impl_IsFirst.f bt517.1 bt517.2.1 bt517.2.2.1 bt517.2.2.2.1 bt517.2.2.2.2.1).bind fun t563 => ((spec_IsFirst.f bt517.1 bt517.2.1 bt517.2.2.1 bt517.2.2.2.1 bt517.2.2.2.2.1).bind fun t564 => (if (t563 != t564) = true then (laws_FnFirstRuns.j0 k l1 bt517.2.2.2.2.2.1 bt517.2.2.2.2.2.2 bt527.1 bt527.2 bt535.1 bt535.2 bt543.1 bt547.1 bt547.2.1 bt547.2.2 true bt517.1 bt517.2.1 bt517.2.2.1 bt517.2.2.2.1 bt517.2.2.2.2.1) else (if bt553.2 = true then (laws_FnFirstRuns.j0 k l1 bt517.2.2.2.2.2.1 bt517.2.2.2.2.2.2 bt527.1 bt527.2 bt535.1 bt535.2 bt543.1 bt547.1 bt547.2.1 bt547.2.2 (bt547.2.2 != bt553.1) bt517.1 bt517.2.1 bt517.2.2.1 bt517.2.2.2.1 bt517.2.2.2.2.1) else (laws_FnFirstRuns.j0 k l1 bt517.2.2.2.2.2.1 bt517.2.2.2.2.2.2 bt527.1 bt527.2 bt535.1 bt535.2 bt543.1 bt547.1 bt547.2.1 bt547.2.2 (bt547.2.2 != false) bt517.1 bt517.2.1 bt517.2.2.1 bt517.2.2.2.1 bt517.2.2.2.2.1))))))))))) else (laws_FnFirstRuns.j0 k l1 bt517.2.2.2.2.2.1 bt517.2.2.2.2.2.2 bt527.1 bt527.2 bt535.1 bt535.2 bt543.1 bt547.1 bt547.2.1 bt547.2.2 true bt517.1 bt517.2.1 bt517.2.2.1 bt517.2.2.2.1 bt517.2.2.2.2.1)) else (laws_FnFirstRuns.j0 k l1 bt517.2.2.2.2.2.1 bt517.2.2.2.2.2.2 bt527.1 bt527.2 bt535.1 bt535.2 bt543.1 bt547.1 bt547.2.1 bt547.2.2 true bt517.1 bt517.2.1 bt517.2.2.1 bt517.2.2.2.1 bt517.2.2.2.2.1))) else (laws_FnFirstRuns.j0 k l1 bt517.2.2.2.2.2.1 bt517.2.2.2.2.2.2 bt527.1 bt527.2 bt535.1 bt535.2 bt543.1 bt547.1 bt547.2.1 bt547.2.2 true bt517.1 bt517.2.1 bt517.2.2.1 bt517.2.2.2.1 bt517.2.2.2.2.1))) else (laws_FnFirstRuns.j0 k l1 bt517.2.2.2.2.2.1 bt517.2.2.2.2.2.2 bt527.1 bt527.2 bt535.1 bt535.2 bt543.1 bt547.1 bt547.2.1 bt547.2.2 true bt517.1 bt517.2.1 bt517.2.2.1 bt517.2.2.2.1 bt517.2.2.2.2.1)))) else (laws_FnFirstRuns.j0 k l1 bt517.2.2.2.2.2.1 bt517.2.2.2.2.2.2 bt527.1 bt527.2 bt535.1 bt535.2 bt543.1 bt547.1 bt547.2.1 bt547.2.2 true bt517.1 bt517.2.1 bt517.2.2.1 bt517.2.2.2.1 bt517.2.2.2.2.1))))))))))))))))) = some r := h
 clear h
 obtain ⟨t516, A3, H⟩ := xO H
 (try dsimp only at H)
 by_cases c4 : t516 = true
 ·as_aux_lemma =>
   subst c4
   rw [if_pos rfl] at H
   obtain rfl := Option.some.inj H
   go_enter Try.func7, Try.ntmps7
   go_wp2_with (first | (refine xG (some 63) Try.func13 #[.slice A0 l0.length c0, .slice A1 l1.length c1] ?_; (with_reducible refine (laws_big.calls _ _ l0 _ _ l1 true _ ?side1 ?side2 ?side3 ?side4 A3.out).mono ?_); (case side1 => exact xC HR0.out); (case side2 => exact HC0.out); (case side3 => exact xC HR1.out); (case side4 => exact HC1.out); rintro e w' ⟨rfl, ⟨nd, rfl⟩⟩; refine ⟨_, rfl, ?_⟩))
   go_ret
   exact ⟨xr, xB HB.out⟩
 replace c4 := Bool.eq_false_iff.mpr c4
 subst c4
 rw [if_neg (show ¬ (false = true) by decide)] at H
 replace H := Option.bind_eq_some_iff.mp H
 obtain ⟨⟨t517, t518, t519, t520, t521, t522, t523⟩, A50, H⟩ := H
 (try dsimp only at H)
 have A5 := xA A50
 clear A50
 replace H := Option.bind_eq_some_iff.mp H
 obtain ⟨⟨t527, t530⟩, A60, H⟩ := H
 (try dsimp only at H)
 have A6 := xA A60
 clear A60
 replace H := Option.bind_eq_some_iff.mp H
 obtain ⟨⟨t531, t534⟩, A70, H⟩ := H
 (try dsimp only at H)
 have A7 := xA A70
 clear A70
 replace H := Option.bind_eq_some_iff.mp H
 obtain ⟨⟨t535, t538⟩, A80, H⟩ := H
 (try dsimp only at H)
 have A8 := xA A80
 clear A80
 replace H := Option.bind_eq_some_iff.mp H
 obtain ⟨⟨t539, t542⟩, A90, H⟩ := H
 (try dsimp only at H)
 have A9 := xA A90
 clear A90
 replace H := Option.bind_eq_some_iff.mp H
 obtain ⟨⟨t543, t544⟩, A100, H⟩ := H
 (try dsimp only at H)
 have A10 := xA A100
 clear A100
 replace H := Option.bind_eq_some_iff.mp H
 obtain ⟨⟨t545, t546⟩, A110, H⟩ := H
 (try dsimp only at H)
 have A11 := xA A110
 clear A110
 replace H := Option.bind_eq_some_iff.mp H
 obtain ⟨⟨t547, t548, t549⟩, A120, H⟩ := H
 (try dsimp only at H)
 have A12 := xA A120
 clear A120
 replace H := Option.bind_eq_some_iff.mp H
 obtain ⟨⟨t550, t551, t552⟩, A130, H⟩ := H
 (try dsimp only at H)
 have A13 := xA A130
 clear A130
 replace H := Option.bind_eq_some_iff.mp H
 obtain ⟨⟨t553, t554⟩, A140, H⟩ := H
 (try dsimp only at H)
 have A14 := xA A140
 clear A140
 replace H := Option.bind_eq_some_iff.mp H
 obtain ⟨⟨t555, t556⟩, A150, H⟩ := H
 (try dsimp only at H)
 have A15 := xA A150
 clear A150
 have HC16 := xA H
 clear H
 go_enter Try.func7, Try.ntmps7
 go_upto_region 14 with (first | (refine xq rfl ?_; first | (refine xG (some 63) Try.func13 #[.slice A0 l0.length c0, .slice A1 l1.length c1] ?_; (with_reducible refine (laws_big.calls _ _ l0 _ _ l1 false _ ?side1 ?side2 ?side3 ?side4 A3.out).mono ?_); (case side1 => exact xC HR0.out); (case side2 => exact HC0.out); (case side3 => exact xC HR1.out); (case side4 => exact HC1.out); rintro e w' ⟨rfl, ⟨nd, rfl⟩⟩; refine ⟨_, rfl, ?_⟩) | (refine xG (some 66) Try.func86 #[.slice A0 l0.length c0] ?_; (with_reducible refine (spec_DrawExactFirst.calls k _ _ l0 t517 t518 t519 t520 t521 t522 t523 _ ?side1 ?side2 A5.out).mono ?_); (case side1 => exact xC HR0.out); (case side2 => exact HC0.out); rintro e w17 ⟨v524, rfl, ho0, hb⟩; refine ⟨_, rfl, ?_⟩; have HO525 := xA (Kd.R_lower ho0 (below_size (xB HB.out))); replace HB := xA (below_step (xB HB.out) hb); (try clear hb); (try clear ho0)) | (refine xG (some 74) Try.func87 #[.agg #[.int .i64 t517, .int .i64 t518, .int .i64 t519, .int .i64 t520, .bool t521], .int .i64 t522, .slice Ao20 t523.length co20] ?_; (with_reducible refine (impl_RunFirst.calls k t517 t518 t519 t520 t521 t522 _ _ t523 t527 t530 _ ?side1 ?side2 A6.out).mono ?_); (case side1 => refine (Kd.R_reads' (e := 3) (base := w.heap.size) (ok := fun k_ => True) (n := t523.length) (c := co20) ?_).2.2; exact (xR HO525.out)); (case side2 => exact (Kd.R_reads' HO525.out).2.1); rintro e w21 ⟨v528, rfl, ho0, hb⟩; refine ⟨_, rfl, ?_⟩; have HO529 := xA (Kd.R_lower (Kd.R_new' ho0 (Kd.R_lt (xR HO525.out))) (below_size (xB1 GE526.out HB.out))); replace HO525 := xA (Kd.R_elder' (xR HO525.out) (Kd.R_base ho0) hb); replace BK526 := xkb BK526 hb; replace HB := xA (below_step (xB1 GE526.out HB.out) hb); (try clear hb); (try clear ho0); replace hz526 := blk_cell BK526.out; replace hy526 := blk_frozen BK526.out) | (refine xG (some 81) Try.func88 #[.agg #[.int .i64 t517, .int .i64 t518, .int .i64 t519, .int .i64 t520, .bool t521], .int .i64 t522, .slice Ao20 t523.length co20] ?_; (with_reducible refine (spec_RunFirst.calls k t517 t518 t519 t520 t521 t522 _ _ t523 t531 t534 _ ?side1 ?side2 A7.out).mono ?_); (case side1 => exact xC ((Kd.R_reads' HO525.out).2.2)); (case side2 => exact (Kd.R_reads' HO525.out).2.1); rintro e w23 ⟨v532, rfl, ho0, hb⟩; refine ⟨_, rfl, ?_⟩; have HO533 := xA (Kd.R_lower (Kd.R_new' (Kd.R_new' ho0 (Kd.R_lt (xR HO525.out))) (Kd.R_lt (xR HO529.out))) (below_size (xB1 GE526.out HB.out))); replace HO525 := xA (Kd.R_elder' (xR HO525.out) (Kd.R_base ho0) hb); replace HO529 := xA (Kd.R_elder' (xR HO529.out) (Kd.R_base ho0) hb); replace BK526 := xkb BK526 hb; replace HB := xA (below_step (xB1 GE526.out HB.out) hb); (try clear hb); (try clear ho0); replace hz526 := blk_cell BK526.out; replace hy526 := blk_frozen BK526.out) | (refine xG (some 88) Try.func89 #[.agg #[.int .i64 t517, .int .i64 t518, .int .i64 t519, .int .i64 t520, .bool t521], .int .i64 t522, .slice Ao20 t523.length co20] ?_; (with_reducible refine (impl_ExactFirst.calls k t517 t518 t519 t520 t521 t522 _ _ t523 t535 t538 _ ?side1 ?side2 A8.out).mono ?_); (case side1 => exact xC ((Kd.R_reads' HO525.out).2.2)); (case side2 => exact (Kd.R_reads' HO525.out).2.1); rintro e w25 ⟨v536, rfl, ho0, hb⟩; refine ⟨_, rfl, ?_⟩; have HO537 := xA (Kd.R_lower (Kd.R_new' (Kd.R_new' (Kd.R_new' ho0 (Kd.R_lt (xR HO525.out))) (Kd.R_lt (xR HO529.out))) (Kd.R_lt (xR HO533.out))) (below_size (xB1 GE526.out HB.out))); replace HO525 := xA (Kd.R_elder' (xR HO525.out) (Kd.R_base ho0) hb); replace HO529 := xA (Kd.R_elder' (xR HO529.out) (Kd.R_base ho0) hb); replace HO533 := xA (Kd.R_elder' (xR HO533.out) (Kd.R_base ho0) hb); replace BK526 := xkb BK526 hb; replace HB := xA (below_step (xB1 GE526.out HB.out) hb); (try clear hb); (try clear ho0); replace hz526 := blk_cell BK526.out; replace hy526 := blk_frozen BK526.out) | (refine xG (some 95) Try.func90 #[.agg #[.int .i64 t517, .int .i64 t518, .int .i64 t519, .int .i64 t520, .bool t521], .int .i64 t522, .slice Ao20 t523.length co20] ?_; (with_reducible refine (spec_ExactFirst.calls k t517 t518 t519 t520 t521 t522 _ _ t523 t539 t542 _ ?side1 ?side2 A9.out).mono ?_); (case side1 => exact xC ((Kd.R_reads' HO525.out).2.2)); (case side2 => exact (Kd.R_reads' HO525.out).2.1); rintro e w27 ⟨v540, rfl, ho0, hb⟩; refine ⟨_, rfl, ?_⟩; have HO541 := xA (Kd.R_lower (Kd.R_new' (Kd.R_new' (Kd.R_new' (Kd.R_new' ho0 (Kd.R_lt (xR HO525.out))) (Kd.R_lt (xR HO529.out))) (Kd.R_lt (xR HO533.out))) (Kd.R_lt (xR HO537.out))) (below_size (xB1 GE526.out HB.out))); replace HO525 := xA (Kd.R_elder' (xR HO525.out) (Kd.R_base ho0) hb); replace HO529 := xA (Kd.R_elder' (xR HO529.out) (Kd.R_base ho0) hb); replace HO533 := xA (Kd.R_elder' (xR HO533.out) (Kd.R_base ho0) hb); replace HO537 := xA (Kd.R_elder' (xR HO537.out) (Kd.R_base ho0) hb); replace BK526 := xkb BK526 hb; replace HB := xA (below_step (xB1 GE526.out HB.out) hb); (try clear hb); (try clear ho0); replace hz526 := blk_cell BK526.out; replace hy526 := blk_frozen BK526.out) | (refine xG (some 102) Try.func91 #[.agg #[.int .i64 t517, .int .i64 t518, .int .i64 t519, .int .i64 t520, .bool t521], .int .i64 t522, .slice Ao20 t523.length co20] ?_; (with_reducible refine (impl_CountFits.calls k t517 t518 t519 t520 t521 t522 _ _ t523 t543 t544 _ ?side1 ?side2 A10.out).mono ?_); (case side1 => exact xC ((Kd.R_reads' HO525.out).2.2)); (case side2 => exact (Kd.R_reads' HO525.out).2.1); rintro e w29 ⟨rfl, hb⟩; refine ⟨_, rfl, ?_⟩; replace HO525 := xA (Kd.R_below (xR HO525.out) hb); replace HO529 := xA (Kd.R_below (xR HO529.out) hb); replace HO533 := xA (Kd.R_below (xR HO533.out) hb); replace HO537 := xA (Kd.R_below (xR HO537.out) hb); replace HO541 := xA (Kd.R_below (xR HO541.out) hb); replace BK526 := xkb BK526 hb; replace HB := xA (below_step (xB1 GE526.out HB.out) hb); (try clear hb); replace hz526 := blk_cell BK526.out; replace hy526 := blk_frozen BK526.out) | (refine xG (some 109) Try.func92 #[.agg #[.int .i64 t517, .int .i64 t518, .int .i64 t519, .int .i64 t520, .bool t521], .int .i64 t522, .slice Ao20 t523.length co20] ?_; (with_reducible refine (spec_CountFits.calls k t517 t518 t519 t520 t521 t522 _ _ t523 t545 t546 _ ?side1 ?side2 A11.out).mono ?_); (case side1 => exact xC ((Kd.R_reads' HO525.out).2.2)); (case side2 => exact (Kd.R_reads' HO525.out).2.1); rintro e w31 ⟨rfl, hb⟩; refine ⟨_, rfl, ?_⟩; replace HO525 := xA (Kd.R_below (xR HO525.out) hb); replace HO529 := xA (Kd.R_below (xR HO529.out) hb); replace HO533 := xA (Kd.R_below (xR HO533.out) hb); replace HO537 := xA (Kd.R_below (xR HO537.out) hb); replace HO541 := xA (Kd.R_below (xR HO541.out) hb); replace BK526 := xkb BK526 hb; replace HB := xA (below_step (xB1 GE526.out HB.out) hb); (try clear hb); replace hz526 := blk_cell BK526.out; replace hy526 := blk_frozen BK526.out) | (refine xG (some 114) Try.func93 #[.agg #[.int .i64 t517, .int .i64 t518, .int .i64 t519, .int .i64 t520, .bool t521]] ?_; (with_reducible refine (impl_ErrorBound.calls k t517 t518 t519 t520 t521 t547 t548 t549 _ A12.out).mono ?_); rintro e w33 ⟨rfl, hb⟩; refine ⟨_, rfl, ?_⟩; replace HO525 := xA (Kd.R_below (xR HO525.out) hb); replace HO529 := xA (Kd.R_below (xR HO529.out) hb); replace HO533 := xA (Kd.R_below (xR HO533.out) hb); replace HO537 := xA (Kd.R_below (xR HO537.out) hb); replace HO541 := xA (Kd.R_below (xR HO541.out) hb); replace BK526 := xkb BK526 hb; replace HB := xA (below_step (xB1 GE526.out HB.out) hb); (try clear hb); replace hz526 := blk_cell BK526.out; replace hy526 := blk_frozen BK526.out) | (refine xG (some 120) Try.func94 #[.agg #[.int .i64 t517, .int .i64 t518, .int .i64 t519, .int .i64 t520, .bool t521]] ?_; (with_reducible refine (spec_ErrorBound.calls k t517 t518 t519 t520 t521 t550 t551 t552 _ A13.out).mono ?_); rintro e w35 ⟨rfl, hb⟩; refine ⟨_, rfl, ?_⟩; replace HO525 := xA (Kd.R_below (xR HO525.out) hb); replace HO529 := xA (Kd.R_below (xR HO529.out) hb); replace HO533 := xA (Kd.R_below (xR HO533.out) hb); replace HO537 := xA (Kd.R_below (xR HO537.out) hb); replace HO541 := xA (Kd.R_below (xR HO541.out) hb); replace BK526 := xkb BK526 hb; replace HB := xA (below_step (xB1 GE526.out HB.out) hb); (try clear hb); replace hz526 := blk_cell BK526.out; replace hy526 := blk_frozen BK526.out) | (refine xG (some 126) Try.func95 #[.agg #[.int .i64 t517, .int .i64 t518, .int .i64 t519, .int .i64 t520, .bool t521]] ?_; (with_reducible refine (impl_IsShrinking.calls t517 t518 t519 t520 t521 t553 t554 _ A14.out).mono ?_); rintro e w37 ⟨rfl, hb⟩; refine ⟨_, rfl, ?_⟩; replace HO525 := xA (Kd.R_below (xR HO525.out) hb); replace HO529 := xA (Kd.R_below (xR HO529.out) hb); replace HO533 := xA (Kd.R_below (xR HO533.out) hb); replace HO537 := xA (Kd.R_below (xR HO537.out) hb); replace HO541 := xA (Kd.R_below (xR HO541.out) hb); replace BK526 := xkb BK526 hb; replace HB := xA (below_step (xB1 GE526.out HB.out) hb); (try clear hb); replace hz526 := blk_cell BK526.out; replace hy526 := blk_frozen BK526.out) | (refine xG (some 131) Try.func96 #[.agg #[.int .i64 t517, .int .i64 t518, .int .i64 t519, .int .i64 t520, .bool t521]] ?_; (with_reducible refine (spec_IsShrinking.calls t517 t518 t519 t520 t521 t555 t556 _ A15.out).mono ?_); rintro e w39 ⟨rfl, hb⟩; refine ⟨_, rfl, ?_⟩; replace HO525 := xA (Kd.R_below (xR HO525.out) hb); replace HO529 := xA (Kd.R_below (xR HO529.out) hb); replace HO533 := xA (Kd.R_below (xR HO533.out) hb); replace HO537 := xA (Kd.R_below (xR HO537.out) hb); replace HO541 := xA (Kd.R_below (xR HO541.out) hb); replace BK526 := xkb BK526 hb; replace HB := xA (below_step (xB1 GE526.out HB.out) hb); (try clear hb))) | ((with_reducible refine gate_dst (N := 5) rfl ?_); (try (refine gate_guard (by rfl) ?_; dsimp only)); refine box_event ?hg (N := 5) ?hd (cs := #[.int .i64 0, .int .i64 0, .int .i64 0, .int .i64 0, .bool false]) (t := 62) ?hr ?_; (case hd => rfl); (case hg => rfl); (case hr => first | (go_simp; done) | (go_simp; rfl)); intro gb526 hg w18 hbox hb; replace HO525 := xA (Kd.R_below (xR HO525.out) hb); have BK526 := xA (hbox); have GW526 := xgw hg (below_size (xB HB.out)); have GE526 := GW526; replace HB := xA (below_step (xB HB.out) hb); clear hb hbox hg; replace hz526 := blk_cell BK526.out; replace hy526 := blk_frozen BK526.out; obtain ⟨Ao20, co20, eo20⟩ := Kd.R_slice HO525.out; subst eo20) | ((with_reducible refine gate_store (t := 62) (p := 5) rfl ?_); refine xS5 (ty := 62) (v0 := .int .i64 t517) (v1 := .int .i64 t518) (v2 := .int .i64 t519) (v3 := .int .i64 t520) (v4 := .bool t521) 5 67 (xK BK526.out) ?_; intro wS526 hbk hk hB; replace HO525 := xA (Kd.R_mono (Kd.R_keep (Kd.R_types (xR HO525.out) (xK BK526.out) (by decide)) hk (fun _ h => h.2)) (fun _ h => h.1)); replace HB := xA (hB (xB HB.out) GE526.out); replace BK526 := xA hbk; clear hbk hk hB; replace hz526 := blk_cell BK526.out; replace hy526 := blk_frozen BK526.out))
 (try simp only [Act.put, List.setIfInBounds_toArray, List.set_cons_zero, List.set_cons_succ])
 go_cut [221] from 61 to 133 (fun v221 wc => ∃ (kq : Nat) (x221_15 : Bool), v221 = .bool x221_15 ∧ Aside0 (laws_FnFirstRuns.j0 kq l1 t522 t523 t527 t530 t535 t538 t543 t547 t548 t549 x221_15 t517 t518 t519 t520 t521 = some r) ∧ Aside0 (kq ≤ k) ∧ Aside0 (Kd.R (Kd.int .i64) 3 wc w.heap.size (fun k_ => some k_ ≠ (v528 : Value).ownBlock ∧ some k_ ≠ (v536 : Value).ownBlock) (.slice Ao20 t523.length co20) t523) ∧ Aside0 (Kd.R (Kd.int .i64) 3 wc w.heap.size (fun k_ => some k_ ≠ ((.slice Ao20 t523.length co20) : Value).ownBlock ∧ some k_ ≠ (v536 : Value).ownBlock) v528 t527) ∧ Aside0 (Kd.R (Kd.int .i64) 3 wc w.heap.size (fun k_ => some k_ ≠ ((.slice Ao20 t523.length co20) : Value).ownBlock ∧ some k_ ≠ (v528 : Value).ownBlock) v536 t535) ∧ Aside0 (wc.heap[gb526]? = some (.cells #[.int .i64 t517, .int .i64 t518, .int .i64 t519, .int .i64 t520, .bool t521] 62 (0, 0))) ∧ Aside0 (Below w.heap.size w wc))
 case first =>
  have H := HC16.out
  clear HC16
  by_cases c40 : (t530 != t534) = true
  ·rw [if_pos c40] at H; exact absurd H (by have hr_ := HRT.out; cases k <;> simp [laws_FnFirstRuns.j0, hr_])
  rw [if_neg c40] at H
  have c40b0 : (t530 != t534) = false := by simpa using c40
  (try (have c40b1 : decide (t530 = t534) = true := by simpa using c40))
  (try (have c40b2 : (t530 == t534) = true := by simpa using c40))
  clear c40
  (first | rw [c40b0] | (simp only [i64_w, i32_w]; rw [c40b0]) | skip)
  obtain ⟨t557, A41, H⟩ := xO H
  (try dsimp only at H)
  by_cases c42 : t557 = true
  rotate_left
  ·replace c42 := Bool.eq_false_iff.mpr c42; subst c42; exact absurd H (by have hr_ := HRT.out; cases k <;> simp [laws_FnFirstRuns.j0, hr_])
  subst c42
  rw [if_pos rfl] at H
  by_cases c43 : (t538 != t542) = true
  ·rw [if_pos c43] at H; exact absurd H (by have hr_ := HRT.out; cases k <;> simp [laws_FnFirstRuns.j0, hr_])
  rw [if_neg c43] at H
  have c43b0 : (t538 != t542) = false := by simpa using c43
  (try (have c43b1 : decide (t538 = t542) = true := by simpa using c43))
  (try (have c43b2 : (t538 == t542) = true := by simpa using c43))
  clear c43
  obtain ⟨t558, A44, H⟩ := xO H
  (try dsimp only at H)
  by_cases c45 : t558 = true
  rotate_left
  ·replace c45 := Bool.eq_false_iff.mpr c45; subst c45; exact absurd H (by have hr_ := HRT.out; cases k <;> simp [laws_FnFirstRuns.j0, hr_])
  subst c45
  rw [if_pos rfl] at H
  by_cases c46 : (t544 != t546) = true
  ·rw [if_pos c46] at H; exact absurd H (by have hr_ := HRT.out; cases k <;> simp [laws_FnFirstRuns.j0, hr_])
  rw [if_neg c46] at H
  have c46b0 : (t544 != t546) = false := by simpa using c46
  (try (have c46b1 : decide (t544 = t546) = true := by simpa using c46))
  (try (have c46b2 : (t544 == t546) = true := by simpa using c46))
  clear c46
  by_cases c47 : t543 = t545
  rotate_left
  ·rw [if_neg c47] at H; exact absurd H (by have hr_ := HRT.out; cases k <;> simp [laws_FnFirstRuns.j0, hr_])
  rw [if_pos c47] at H
  have c47b0 : (t543 == t545) = true := beq_iff_eq.mpr c47
  have c47b1 : (t543 != t545) = false := bne_eq_false_iff_eq.mpr c47
  clear c47
  by_cases c48 : (t549 != t552) = true
  ·rw [if_pos c48] at H; exact absurd H (by have hr_ := HRT.out; cases k <;> simp [laws_FnFirstRuns.j0, hr_])
  rw [if_neg c48] at H
  have c48b0 : (t549 != t552) = false := by simpa using c48
  (try (have c48b1 : decide (t549 = t552) = true := by simpa using c48))
  (try (have c48b2 : (t549 == t552) = true := by simpa using c48))
  clear c48
  by_cases c49 : t547 = t550
  rotate_left
  ·rw [if_neg c49] at H; exact absurd H (by have hr_ := HRT.out; cases k <;> simp [laws_FnFirstRuns.j0, hr_])
  rw [if_pos c49] at H
  have c49b0 : (t547 == t550) = true := beq_iff_eq.mpr c49
  have c49b1 : (t547 != t550) = false := bne_eq_false_iff_eq.mpr c49
  clear c49
  by_cases c50 : t548 = t551
  rotate_left
  ·rw [if_neg c50] at H; exact absurd H (by have hr_ := HRT.out; cases k <;> simp [laws_FnFirstRuns.j0, hr_])
  rw [if_pos c50] at H
  have c50b0 : (t548 == t551) = true := beq_iff_eq.mpr c50
  have c50b1 : (t548 != t551) = false := bne_eq_false_iff_eq.mpr c50
  clear c50
  by_cases c51 : (t554 != t556) = true
  ·rw [if_pos c51] at H; exact absurd H (by have hr_ := HRT.out; cases k <;> simp [laws_FnFirstRuns.j0, hr_])
  rw [if_neg c51] at H
  have c51b0 : (t554 != t556) = false := by simpa using c51
  (try (have c51b1 : decide (t554 = t556) = true := by simpa using c51))
  (try (have c51b2 : (t554 == t556) = true := by simpa using c51))
  clear c51
  by_cases c52 : (t553 != t555) = true
  ·rw [if_pos c52] at H; exact absurd H (by have hr_ := HRT.out; cases k <;> simp [laws_FnFirstRuns.j0, hr_])
  rw [if_neg c52] at H
  have c52b0 : (t553 != t555) = false := by simpa using c52
  (try (have c52b1 : decide (t553 = t555) = true := by simpa using c52))
  (try (have c52b2 : (t553 == t555) = true := by simpa using c52))
  clear c52
  by_cases c53 : (t544 != t530) = true
  ·rw [if_pos c53] at H; exact absurd H (by have hr_ := HRT.out; cases k <;> simp [laws_FnFirstRuns.j0, hr_])
  rw [if_neg c53] at H
  have c53b0 : (t544 != t530) = false := by simpa using c53
  (try (have c53b1 : decide (t544 = t530) = true := by simpa using c53))
  (try (have c53b2 : (t544 == t530) = true := by simpa using c53))
  clear c53
  by_cases c54 : t538 = true
  rotate_left
  ·replace c54 := Bool.eq_false_iff.mpr c54
   subst c54
   rw [if_neg (show ¬ (false = true) by decide)] at H
   obtain ⟨t562, A78, H⟩ := xO H
   (try dsimp only at H)
   by_cases c79 : (t554 != t562) = true
   ·rw [if_pos c79] at H; exact absurd H (by have hr_ := HRT.out; cases k <;> simp [laws_FnFirstRuns.j0, hr_])
   rw [if_neg c79] at H
   have c79b0 : (t554 != t562) = false := by simpa using c79
   (try (have c79b1 : decide (t554 = t562) = true := by simpa using c79))
   (try (have c79b2 : (t554 == t562) = true := by simpa using c79))
   clear c79
   replace H := Option.bind_eq_some_iff.mp H
   obtain ⟨t563, A800, H⟩ := H
   (try dsimp only at H)
   have A80 := xA A800
   obtain rfl : t562 = t563 := Option.some.inj (A78.out.symm.trans A80.out)
   clear A800
   obtain ⟨t564, A81, H⟩ := xO H
   (try dsimp only at H)
   by_cases c82 : (t562 != t564) = true
   ·rw [if_pos c82] at H; exact absurd H (by have hr_ := HRT.out; cases k <;> simp [laws_FnFirstRuns.j0, hr_])
   rw [if_neg c82] at H
   have c82b0 : (t562 != t564) = false := by simpa using c82
   (try (have c82b1 : decide (t562 = t564) = true := by simpa using c82))
   (try (have c82b2 : (t562 == t564) = true := by simpa using c82))
   clear c82
   by_cases c83 : t554 = true
   rotate_left
   ·as_aux_lemma =>
     replace c83 := Bool.eq_false_iff.mpr c83
     subst c83
     rw [if_neg (show ¬ (false = true) by decide)] at H
     have H' := xA H
     clear H
     try go_wp2
     replace HO525 := xA (Kd.R_drew HO525.out)
     replace HO529 := xA (Kd.R_drew HO529.out)
     replace HO533 := xA (Kd.R_drew HO533.out)
     replace HO537 := xA (Kd.R_drew HO537.out)
     replace HO541 := xA (Kd.R_drew HO541.out)
     replace BK526 := xA (blk_drew BK526.out)
     replace HB := xA (below_drew1 HB.out)
     obtain ⟨Ao93, co93, eo93⟩ := Kd.R_slice HO529.out
     (first | subst eo93 | (injection eo93 with f1_ f2_ f3_; have f4_ := f1_.symm; have f5_ := f3_.symm; clear f1_ f2_ f3_; subst f4_; subst f5_))
     obtain ⟨Ao94, co94, eo94⟩ := Kd.R_slice HO533.out
     (first | subst eo94 | (injection eo94 with f1_ f2_ f3_; have f4_ := f1_.symm; have f5_ := f3_.symm; clear f1_ f2_ f3_; subst f4_; subst f5_))
     refine start_ (n := 88) (S := fun w' => w'.cell? ⟨gb526, 0, none⟩ = some (.int .i64 t517) ∧ w'.cell? ⟨gb526, 1, none⟩ = some (.int .i64 t518) ∧ w'.cell? ⟨gb526, 2, none⟩ = some (.int .i64 t519) ∧ w'.cell? ⟨gb526, 3, none⟩ = some (.int .i64 t520) ∧ w'.cell? ⟨gb526, 4, none⟩ = some (.bool t521)) (ds := []) x14a0 (by kernel_rfl) rfl rfl ⟨(blk_cell BK526.out 0).trans rfl, (blk_cell BK526.out 1).trans rfl, (blk_cell BK526.out 2).trans rfl, (blk_cell BK526.out 3).trans rfl, (blk_cell BK526.out 4).trans rfl⟩ (fun hHeld => ?_); refine with_tabW laws_FnFirstRuns.tab14 laws_FnFirstRuns.bits14 (fun HT_ HW_ => ?_)
     generalize w39.drew = w92 at HO525 HO529 HO533 HO537 HO541 BK526 HB hHeld ⊢
     refine xP 0 134 x14a1 ?_
     refine xP 1 135 x14a2 ?_
     refine xP 2 136 x14a3 ?_
     refine xP 3 137 x14a4 ?_
     refine xP 4 138 x14a5 ?_
     refine xP 5 139 x14a6 ?_
     refine xU 6 140 x14a7 (fun K hK => ?_)
     refine xY Try.func44 #[.slice Ao93 t527.length co93, .slice Ao94 t531.length co94] ?_
     with_reducible refine (laws_uSame.calls k _ _ t527 _ _ t531 true _ ?side1 ?side2 ?side3 ?side4 A41.out).mono ?_
     (case side1 => exact xC ((Kd.R_reads' HO529.out).2.2))
     (case side2 => exact (Kd.R_reads' HO529.out).2.1)
     (case side3 => exact xC ((Kd.R_reads' HO533.out).2.2))
     (case side4 => exact (Kd.R_reads' HO533.out).2.1)
     rintro e w' ⟨rfl, ⟨nd, rfl⟩⟩
     refine ⟨_, rfl, ?_⟩
     obtain ⟨Ao95, co95, eo95⟩ := Kd.R_slice HO537.out
     (first | subst eo95 | (injection eo95 with f1_ f2_ f3_; have f4_ := f1_.symm; have f5_ := f3_.symm; clear f1_ f2_ f3_; subst f4_; subst f5_))
     obtain ⟨Ao96, co96, eo96⟩ := Kd.R_slice HO541.out
     (first | subst eo96 | (injection eo96 with f1_ f2_ f3_; have f4_ := f1_.symm; have f5_ := f3_.symm; clear f1_ f2_ f3_; subst f4_; subst f5_))
     refine hK.out _ _ ⟨(blk_cell BK526.out 0).trans rfl, (blk_cell BK526.out 1).trans rfl, (blk_cell BK526.out 2).trans rfl, (blk_cell BK526.out 3).trans rfl, (blk_cell BK526.out 4).trans rfl⟩ (fun hHeld => ?_)
     clear hK K
     refine xN ?_
     refine xP 7 141 x14a8 ?_
     refine xP 8 142 x14a9 ?_
     refine xP 9 143 x14a10 ?_
     refine xP 10 144 x14a11 ?_
     refine xP 11 145 x14a12 ?_
     refine xP 12 146 x14a13 ?_
     refine xP 13 147 x14a14 ?_
     refine xP 14 148 x14a15 ?_
     refine xP 15 149 x14a16 ?_
     refine xP 16 150 x14a17 ?_
     refine xU 17 151 x14a18 (fun K hK => ?_)
     refine xY Try.func44 #[.slice Ao95 t535.length co95, .slice Ao96 t539.length co96] ?_
     with_reducible refine (laws_uSame.calls k _ _ t535 _ _ t539 true _ ?side1 ?side2 ?side3 ?side4 A44.out).mono ?_
     (case side1 => exact xC ((Kd.R_reads' HO537.out).2.2))
     (case side2 => exact (Kd.R_reads' HO537.out).2.1)
     (case side3 => exact xC ((Kd.R_reads' HO541.out).2.2))
     (case side4 => exact (Kd.R_reads' HO541.out).2.1)
     rintro e w' ⟨rfl, ⟨nd, rfl⟩⟩
     refine ⟨_, rfl, ?_⟩
     refine hK.out _ _ ⟨(blk_cell BK526.out 0).trans rfl, (blk_cell BK526.out 1).trans rfl, (blk_cell BK526.out 2).trans rfl, (blk_cell BK526.out 3).trans rfl, (blk_cell BK526.out 4).trans rfl⟩ (fun hHeld => ?_)
     clear hK K
     refine xN ?_
     refine xP 18 152 x14a19 ?_
     refine xP 19 153 x14a20 ?_
     refine xP 20 154 x14a21 ?_
     refine xP 21 155 x14a22 ?_
     refine xP 22 156 x14a23 ?_
     refine xP 23 157 x14a24 ?_
     refine xP 24 158 x14a25 ?_
     refine xP 25 159 x14a26 ?_
     refine xP 26 160 x14a27 ?_
     refine xP 27 161 x14a28 ?_
     refine xP 28 162 x14a29 ?_
     refine xP 29 163 x14a30 ?_
     refine xP 30 164 x14a31 ?_
     refine xP 31 165 x14a32 ?_
     refine xP 32 166 x14a33 ?_
     refine xP 33 167 x14a34 ?_
     refine xP 34 168 x14a35 ?_
     refine xP 35 169 x14a36 ?_
     refine xP 36 170 x14a37 ?_
     refine xP 37 171 x14a38 ?_
     refine xP 38 172 x14a39 ?_
     refine xP 39 173 x14a40 ?_
     refine xP 40 174 x14a41 ?_
     refine xP 41 175 x14a42 ?_
     refine xP 42 176 x14a43 ?_
     refine xP 43 177 x14a44 ?_
     refine xP 44 178 x14a45 ?_
     refine xP 45 179 x14a46 ?_
     refine xP 46 180 x14a47 ?_
     refine xP 47 181 x14a48 ?_
     refine xP 48 182 x14a49 ?_
     refine xP 49 183 x14a50 ?_
     refine xP 50 184 x14a51 ?_
     refine xP 51 185 x14a52 ?_
     refine xP 52 186 x14a53 ?_
     refine xP 53 187 x14a54 ?_
     refine xP 54 188 x14a55 ?_
     refine xP 55 189 x14a56 ?_
     refine xP 56 190 x14a57 ?_
     refine xP 57 191 x14a58 ?_
     refine xP 58 192 x14a59 ?_
     refine xP 59 193 x14a60 ?_
     refine xP 60 194 x14a61 ?_
     refine xP 61 195 x14a62 ?_
     refine xP 62 196 x14a63 ?_
     refine pure_ (i := 63) (N := some 197) (v := undef) (a' := ?_) x14a64 rfl rfl (any_of HT_.out (by kernel_rfl)) (fun _ _ _ h => h) (Or.inr ⟨by rfl, rfl⟩) ?_ ?_
     rotate_left
     ·exact xE
     refine pure_ (i := 64) (N := some 198) (v := undef) (a' := ?_) x14a65 rfl rfl (any_of HT_.out (by kernel_rfl)) (fun _ _ _ h => h) (Or.inr ⟨by rfl, rfl⟩) ?_ ?_
     rotate_left
     ·exact xE
     refine xP 65 199 x14a66 ?_
     refine xP 66 200 x14a67 ?_
     refine xP 67 201 x14a68 ?_
     refine xP 68 202 x14a69 ?_
     refine xT5 hHeld 69 203 x14a70 ?_
     refine xU 70 204 x14a71 (fun K hK => ?_)
     refine xY Try.func97 #[.agg #[.int .i64 t517, .int .i64 t518, .int .i64 t519, .int .i64 t520, .bool t521]] ?_
     with_reducible refine (impl_IsFirst.calls t517 t518 t519 t520 t521 t562 _ A78.out).mono ?_
     rintro e w97 ⟨rfl, hb⟩
     refine ⟨_, rfl, ?_⟩
     replace HO525 := xA (Kd.R_below (xR HO525.out) hb)
     replace HO529 := xA (Kd.R_below (xR HO529.out) hb)
     replace HO533 := xA (Kd.R_below (xR HO533.out) hb)
     replace HO537 := xA (Kd.R_below (xR HO537.out) hb)
     replace HO541 := xA (Kd.R_below (xR HO541.out) hb)
     replace BK526 := xkb BK526 hb
     replace HB := xA (below_step (xB1 GE526.out HB.out) hb)
     (try clear hb); (try clear hb2); (try clear hk); (try clear hi)
     refine hK.out _ _ ⟨(blk_cell BK526.out 0).trans rfl, (blk_cell BK526.out 1).trans rfl, (blk_cell BK526.out 2).trans rfl, (blk_cell BK526.out 3).trans rfl, (blk_cell BK526.out 4).trans rfl⟩ (fun hHeld => ?_)
     clear hK K
     refine xN ?_
     refine xP 71 205 x14a72 ?_
     refine xP 72 206 x14a73 ?_
     refine xP 73 207 x14a74 ?_
     refine xT5 hHeld 74 208 x14a75 ?_
     refine xT5 hHeld 76 210 x14a76 ?_
     refine xU 75 209 x14a77 (fun K hK => ?_)
     refine xY Try.func97 #[.agg #[.int .i64 t517, .int .i64 t518, .int .i64 t519, .int .i64 t520, .bool t521]] ?_
     with_reducible refine (impl_IsFirst.calls t517 t518 t519 t520 t521 t562 _ A80.out).mono ?_
     rintro e w98 ⟨rfl, hb⟩
     refine ⟨_, rfl, ?_⟩
     replace HO525 := xA (Kd.R_below (xR HO525.out) hb)
     replace HO529 := xA (Kd.R_below (xR HO529.out) hb)
     replace HO533 := xA (Kd.R_below (xR HO533.out) hb)
     replace HO537 := xA (Kd.R_below (xR HO537.out) hb)
     replace HO541 := xA (Kd.R_below (xR HO541.out) hb)
     replace BK526 := xkb BK526 hb
     replace HB := xA (below_step (xB1 GE526.out HB.out) hb)
     (try clear hb); (try clear hb2); (try clear hk); (try clear hi)
     refine hK.out _ _ ⟨(blk_cell BK526.out 0).trans rfl, (blk_cell BK526.out 1).trans rfl, (blk_cell BK526.out 2).trans rfl, (blk_cell BK526.out 3).trans rfl, (blk_cell BK526.out 4).trans rfl⟩ (fun hHeld => ?_)
     clear hK K
     refine xN ?_
     refine xU 77 211 x14a78 (fun K hK => ?_)
     refine xY Try.func98 #[.agg #[.int .i64 t517, .int .i64 t518, .int .i64 t519, .int .i64 t520, .bool t521]] ?_
     with_reducible refine (spec_IsFirst.calls t517 t518 t519 t520 t521 t564 _ A81.out).mono ?_
     rintro e w99 ⟨rfl, hb⟩
     refine ⟨_, rfl, ?_⟩
     replace HO525 := xA (Kd.R_below (xR HO525.out) hb)
     replace HO529 := xA (Kd.R_below (xR HO529.out) hb)
     replace HO533 := xA (Kd.R_below (xR HO533.out) hb)
     replace HO537 := xA (Kd.R_below (xR HO537.out) hb)
     replace HO541 := xA (Kd.R_below (xR HO541.out) hb)
     replace BK526 := xkb BK526 hb
     replace HB := xA (below_step (xB1 GE526.out HB.out) hb)
     (try clear hb); (try clear hb2); (try clear hk); (try clear hi)
     refine hK.out _ _ ⟨(blk_cell BK526.out 0).trans rfl, (blk_cell BK526.out 1).trans rfl, (blk_cell BK526.out 2).trans rfl, (blk_cell BK526.out 3).trans rfl, (blk_cell BK526.out 4).trans rfl⟩ (fun hHeld => ?_)
     clear hK K
     refine xN ?_
     refine xP 78 212 x14a79 ?_
     refine xP 79 213 x14a80 ?_
     refine xP 80 214 x14a81 ?_
     refine xP 81 215 x14a82 ?_
     refine xP 82 216 x14a83 ?_
     refine xP 83 217 x14a84 ?_
     refine pure_ (i := 84) (N := some 218) (v := undef) (a' := ?_) x14a85 rfl rfl (any_of HT_.out (by kernel_rfl)) (fun _ _ _ h => h) (Or.inr ⟨by rfl, rfl⟩) ?_ ?_
     rotate_left
     ·exact xE
     refine xP 85 219 x14a86 ?_
     refine xP 86 220 x14a87 ?_
     refine xP 87 221 x14a88 ?_
     refine xDn ?_
     try go_wp2
     go_meet
     case rel => exact ⟨_, ((t549 != false)), xs, H', ⟨by first | omega | exact Nat.le_refl _⟩, ⟨by (with_reducible repeat (first | apply Kd.R_alloc | apply Kd.R_drewN | apply Kd.R_drew)); exact Kd.R_mono HO525.out (fun _ hk => ⟨hk.1.1.1.2, hk.1.2⟩)⟩, ⟨by (with_reducible repeat (first | apply Kd.R_alloc | apply Kd.R_drewN | apply Kd.R_drew)); exact Kd.R_mono HO529.out (fun _ hk => ⟨hk.1.1.1.2, hk.1.2⟩)⟩, ⟨by (with_reducible repeat (first | apply Kd.R_alloc | apply Kd.R_drewN | apply Kd.R_drew)); exact Kd.R_mono HO537.out (fun _ hk => ⟨hk.1.1.1.2, hk.1.1.2⟩)⟩, ⟨xK BK526.out⟩, ⟨xB1 GE526.out HB.out⟩⟩
   as_aux_lemma =>
     subst c83
     rw [if_pos rfl] at H
     have H' := xA H
     clear H
     try go_wp2
     replace HO525 := xA (Kd.R_drew HO525.out)
     replace HO529 := xA (Kd.R_drew HO529.out)
     replace HO533 := xA (Kd.R_drew HO533.out)
     replace HO537 := xA (Kd.R_drew HO537.out)
     replace HO541 := xA (Kd.R_drew HO541.out)
     replace BK526 := xA (blk_drew BK526.out)
     replace HB := xA (below_drew1 HB.out)
     obtain ⟨Ao85, co85, eo85⟩ := Kd.R_slice HO529.out
     (first | subst eo85 | (injection eo85 with f1_ f2_ f3_; have f4_ := f1_.symm; have f5_ := f3_.symm; clear f1_ f2_ f3_; subst f4_; subst f5_))
     obtain ⟨Ao86, co86, eo86⟩ := Kd.R_slice HO533.out
     (first | subst eo86 | (injection eo86 with f1_ f2_ f3_; have f4_ := f1_.symm; have f5_ := f3_.symm; clear f1_ f2_ f3_; subst f4_; subst f5_))
     refine start_ (n := 88) (S := fun w' => w'.cell? ⟨gb526, 0, none⟩ = some (.int .i64 t517) ∧ w'.cell? ⟨gb526, 1, none⟩ = some (.int .i64 t518) ∧ w'.cell? ⟨gb526, 2, none⟩ = some (.int .i64 t519) ∧ w'.cell? ⟨gb526, 3, none⟩ = some (.int .i64 t520) ∧ w'.cell? ⟨gb526, 4, none⟩ = some (.bool t521)) (ds := []) x14a0 (by kernel_rfl) rfl rfl ⟨(blk_cell BK526.out 0).trans rfl, (blk_cell BK526.out 1).trans rfl, (blk_cell BK526.out 2).trans rfl, (blk_cell BK526.out 3).trans rfl, (blk_cell BK526.out 4).trans rfl⟩ (fun hHeld => ?_); refine with_tabW laws_FnFirstRuns.tab14 laws_FnFirstRuns.bits14 (fun HT_ HW_ => ?_)
     generalize w39.drew = w84 at HO525 HO529 HO533 HO537 HO541 BK526 HB hHeld ⊢
     refine xP 0 134 x14a1 ?_
     refine xP 1 135 x14a2 ?_
     refine xP 2 136 x14a3 ?_
     refine xP 3 137 x14a4 ?_
     refine xP 4 138 x14a5 ?_
     refine xP 5 139 x14a6 ?_
     refine xU 6 140 x14a7 (fun K hK => ?_)
     refine xY Try.func44 #[.slice Ao85 t527.length co85, .slice Ao86 t531.length co86] ?_
     with_reducible refine (laws_uSame.calls k _ _ t527 _ _ t531 true _ ?side1 ?side2 ?side3 ?side4 A41.out).mono ?_
     (case side1 => exact xC ((Kd.R_reads' HO529.out).2.2))
     (case side2 => exact (Kd.R_reads' HO529.out).2.1)
     (case side3 => exact xC ((Kd.R_reads' HO533.out).2.2))
     (case side4 => exact (Kd.R_reads' HO533.out).2.1)
     rintro e w' ⟨rfl, ⟨nd, rfl⟩⟩
     refine ⟨_, rfl, ?_⟩
     obtain ⟨Ao87, co87, eo87⟩ := Kd.R_slice HO537.out
     (first | subst eo87 | (injection eo87 with f1_ f2_ f3_; have f4_ := f1_.symm; have f5_ := f3_.symm; clear f1_ f2_ f3_; subst f4_; subst f5_))
     obtain ⟨Ao88, co88, eo88⟩ := Kd.R_slice HO541.out
     (first | subst eo88 | (injection eo88 with f1_ f2_ f3_; have f4_ := f1_.symm; have f5_ := f3_.symm; clear f1_ f2_ f3_; subst f4_; subst f5_))
     refine hK.out _ _ ⟨(blk_cell BK526.out 0).trans rfl, (blk_cell BK526.out 1).trans rfl, (blk_cell BK526.out 2).trans rfl, (blk_cell BK526.out 3).trans rfl, (blk_cell BK526.out 4).trans rfl⟩ (fun hHeld => ?_)
     clear hK K
     refine xN ?_
     refine xP 7 141 x14a8 ?_
     refine xP 8 142 x14a9 ?_
     refine xP 9 143 x14a10 ?_
     refine xP 10 144 x14a11 ?_
     refine xP 11 145 x14a12 ?_
     refine xP 12 146 x14a13 ?_
     refine xP 13 147 x14a14 ?_
     refine xP 14 148 x14a15 ?_
     refine xP 15 149 x14a16 ?_
     refine xP 16 150 x14a17 ?_
     refine xU 17 151 x14a18 (fun K hK => ?_)
     refine xY Try.func44 #[.slice Ao87 t535.length co87, .slice Ao88 t539.length co88] ?_
     with_reducible refine (laws_uSame.calls k _ _ t535 _ _ t539 true _ ?side1 ?side2 ?side3 ?side4 A44.out).mono ?_
     (case side1 => exact xC ((Kd.R_reads' HO537.out).2.2))
     (case side2 => exact (Kd.R_reads' HO537.out).2.1)
     (case side3 => exact xC ((Kd.R_reads' HO541.out).2.2))
     (case side4 => exact (Kd.R_reads' HO541.out).2.1)
     rintro e w' ⟨rfl, ⟨nd, rfl⟩⟩
     refine ⟨_, rfl, ?_⟩
     refine hK.out _ _ ⟨(blk_cell BK526.out 0).trans rfl, (blk_cell BK526.out 1).trans rfl, (blk_cell BK526.out 2).trans rfl, (blk_cell BK526.out 3).trans rfl, (blk_cell BK526.out 4).trans rfl⟩ (fun hHeld => ?_)
     clear hK K
     refine xN ?_
     refine xP 18 152 x14a19 ?_
     refine xP 19 153 x14a20 ?_
     refine xP 20 154 x14a21 ?_
     refine xP 21 155 x14a22 ?_
     refine xP 22 156 x14a23 ?_
     refine xP 23 157 x14a24 ?_
     refine xP 24 158 x14a25 ?_
     refine xP 25 159 x14a26 ?_
     refine xP 26 160 x14a27 ?_
     refine xP 27 161 x14a28 ?_
     refine xP 28 162 x14a29 ?_
     refine xP 29 163 x14a30 ?_
     refine xP 30 164 x14a31 ?_
     refine xP 31 165 x14a32 ?_
     refine xP 32 166 x14a33 ?_
     refine xP 33 167 x14a34 ?_
     refine xP 34 168 x14a35 ?_
     refine xP 35 169 x14a36 ?_
     refine xP 36 170 x14a37 ?_
     refine xP 37 171 x14a38 ?_
     refine xP 38 172 x14a39 ?_
     refine xP 39 173 x14a40 ?_
     refine xP 40 174 x14a41 ?_
     refine xP 41 175 x14a42 ?_
     refine xP 42 176 x14a43 ?_
     refine xP 43 177 x14a44 ?_
     refine xP 44 178 x14a45 ?_
     refine xP 45 179 x14a46 ?_
     refine xP 46 180 x14a47 ?_
     refine xP 47 181 x14a48 ?_
     refine xP 48 182 x14a49 ?_
     refine xP 49 183 x14a50 ?_
     refine xP 50 184 x14a51 ?_
     refine xP 51 185 x14a52 ?_
     refine xP 52 186 x14a53 ?_
     refine xP 53 187 x14a54 ?_
     refine xP 54 188 x14a55 ?_
     refine xP 55 189 x14a56 ?_
     refine xP 56 190 x14a57 ?_
     refine xP 57 191 x14a58 ?_
     refine xP 58 192 x14a59 ?_
     refine xP 59 193 x14a60 ?_
     refine xP 60 194 x14a61 ?_
     refine xP 61 195 x14a62 ?_
     refine xP 62 196 x14a63 ?_
     refine pure_ (i := 63) (N := some 197) (v := undef) (a' := ?_) x14a64 rfl rfl (any_of HT_.out (by kernel_rfl)) (fun _ _ _ h => h) (Or.inr ⟨by rfl, rfl⟩) ?_ ?_
     rotate_left
     ·exact xE
     refine pure_ (i := 64) (N := some 198) (v := undef) (a' := ?_) x14a65 rfl rfl (any_of HT_.out (by kernel_rfl)) (fun _ _ _ h => h) (Or.inr ⟨by rfl, rfl⟩) ?_ ?_
     rotate_left
     ·exact xE
     refine xP 65 199 x14a66 ?_
     refine xP 66 200 x14a67 ?_
     refine xP 67 201 x14a68 ?_
     refine xP 68 202 x14a69 ?_
     refine xT5 hHeld 69 203 x14a70 ?_
     refine xU 70 204 x14a71 (fun K hK => ?_)
     refine xY Try.func97 #[.agg #[.int .i64 t517, .int .i64 t518, .int .i64 t519, .int .i64 t520, .bool t521]] ?_
     with_reducible refine (impl_IsFirst.calls t517 t518 t519 t520 t521 t562 _ A78.out).mono ?_
     rintro e w89 ⟨rfl, hb⟩
     refine ⟨_, rfl, ?_⟩
     replace HO525 := xA (Kd.R_below (xR HO525.out) hb)
     replace HO529 := xA (Kd.R_below (xR HO529.out) hb)
     replace HO533 := xA (Kd.R_below (xR HO533.out) hb)
     replace HO537 := xA (Kd.R_below (xR HO537.out) hb)
     replace HO541 := xA (Kd.R_below (xR HO541.out) hb)
     replace BK526 := xkb BK526 hb
     replace HB := xA (below_step (xB1 GE526.out HB.out) hb)
     (try clear hb); (try clear hb2); (try clear hk); (try clear hi)
     refine hK.out _ _ ⟨(blk_cell BK526.out 0).trans rfl, (blk_cell BK526.out 1).trans rfl, (blk_cell BK526.out 2).trans rfl, (blk_cell BK526.out 3).trans rfl, (blk_cell BK526.out 4).trans rfl⟩ (fun hHeld => ?_)
     clear hK K
     refine xN ?_
     refine xP 71 205 x14a72 ?_
     refine xP 72 206 x14a73 ?_
     refine xP 73 207 x14a74 ?_
     refine xT5 hHeld 74 208 x14a75 ?_
     refine xT5 hHeld 76 210 x14a76 ?_
     refine xU 75 209 x14a77 (fun K hK => ?_)
     refine xY Try.func97 #[.agg #[.int .i64 t517, .int .i64 t518, .int .i64 t519, .int .i64 t520, .bool t521]] ?_
     with_reducible refine (impl_IsFirst.calls t517 t518 t519 t520 t521 t562 _ A80.out).mono ?_
     rintro e w90 ⟨rfl, hb⟩
     refine ⟨_, rfl, ?_⟩
     replace HO525 := xA (Kd.R_below (xR HO525.out) hb)
     replace HO529 := xA (Kd.R_below (xR HO529.out) hb)
     replace HO533 := xA (Kd.R_below (xR HO533.out) hb)
     replace HO537 := xA (Kd.R_below (xR HO537.out) hb)
     replace HO541 := xA (Kd.R_below (xR HO541.out) hb)
     replace BK526 := xkb BK526 hb
     replace HB := xA (below_step (xB1 GE526.out HB.out) hb)
     (try clear hb); (try clear hb2); (try clear hk); (try clear hi)
     refine hK.out _ _ ⟨(blk_cell BK526.out 0).trans rfl, (blk_cell BK526.out 1).trans rfl, (blk_cell BK526.out 2).trans rfl, (blk_cell BK526.out 3).trans rfl, (blk_cell BK526.out 4).trans rfl⟩ (fun hHeld => ?_)
     clear hK K
     refine xN ?_
     refine xU 77 211 x14a78 (fun K hK => ?_)
     refine xY Try.func98 #[.agg #[.int .i64 t517, .int .i64 t518, .int .i64 t519, .int .i64 t520, .bool t521]] ?_
     with_reducible refine (spec_IsFirst.calls t517 t518 t519 t520 t521 t564 _ A81.out).mono ?_
     rintro e w91 ⟨rfl, hb⟩
     refine ⟨_, rfl, ?_⟩
     replace HO525 := xA (Kd.R_below (xR HO525.out) hb)
     replace HO529 := xA (Kd.R_below (xR HO529.out) hb)
     replace HO533 := xA (Kd.R_below (xR HO533.out) hb)
     replace HO537 := xA (Kd.R_below (xR HO537.out) hb)
     replace HO541 := xA (Kd.R_below (xR HO541.out) hb)
     replace BK526 := xkb BK526 hb
     replace HB := xA (below_step (xB1 GE526.out HB.out) hb)
     (try clear hb); (try clear hb2); (try clear hk); (try clear hi)
     refine hK.out _ _ ⟨(blk_cell BK526.out 0).trans rfl, (blk_cell BK526.out 1).trans rfl, (blk_cell BK526.out 2).trans rfl, (blk_cell BK526.out 3).trans rfl, (blk_cell BK526.out 4).trans rfl⟩ (fun hHeld => ?_)
     clear hK K
     refine xN ?_
     refine xP 78 212 x14a79 ?_
     refine xP 79 213 x14a80 ?_
     refine xP 80 214 x14a81 ?_
     refine xP 81 215 x14a82 ?_
     refine xP 82 216 x14a83 ?_
     refine xP 83 217 x14a84 ?_
     refine xP 84 218 x14a85 ?_
     refine xP 85 219 x14a86 ?_
     refine xP 86 220 x14a87 ?_
     refine xP 87 221 x14a88 ?_
     refine xDn ?_
     try go_wp2
     go_meet
     case rel => exact ⟨_, ((t549 != t553)), xs, H', ⟨by first | omega | exact Nat.le_refl _⟩, ⟨by (with_reducible repeat (first | apply Kd.R_alloc | apply Kd.R_drewN | apply Kd.R_drew)); exact Kd.R_mono HO525.out (fun _ hk => ⟨hk.1.1.1.2, hk.1.2⟩)⟩, ⟨by (with_reducible repeat (first | apply Kd.R_alloc | apply Kd.R_drewN | apply Kd.R_drew)); exact Kd.R_mono HO529.out (fun _ hk => ⟨hk.1.1.1.2, hk.1.2⟩)⟩, ⟨by (with_reducible repeat (first | apply Kd.R_alloc | apply Kd.R_drewN | apply Kd.R_drew)); exact Kd.R_mono HO537.out (fun _ hk => ⟨hk.1.1.1.2, hk.1.1.2⟩)⟩, ⟨xK BK526.out⟩, ⟨xB1 GE526.out HB.out⟩⟩
  subst c54
  rw [if_pos rfl] at H
  by_cases c55 : t530 = true
  rotate_left
  ·replace c55 := Bool.eq_false_iff.mpr c55; subst c55; exact absurd H (by have hr_ := HRT.out; cases k <;> simp [laws_FnFirstRuns.j0, hr_])
  subst c55
  rw [if_pos rfl] at H
  obtain ⟨t559, A56, H⟩ := xO H
  (try dsimp only at H)
  by_cases c57 : (t554 != t559) = true
  ·rw [if_pos c57] at H; exact absurd H (by have hr_ := HRT.out; cases k <;> simp [laws_FnFirstRuns.j0, hr_])
  rw [if_neg c57] at H
  have c57b0 : (t554 != t559) = false := by simpa using c57
  (try (have c57b1 : decide (t554 = t559) = true := by simpa using c57))
  (try (have c57b2 : (t554 == t559) = true := by simpa using c57))
  clear c57
  replace H := Option.bind_eq_some_iff.mp H
  obtain ⟨t560, A580, H⟩ := H
  (try dsimp only at H)
  have A58 := xA A580
  obtain rfl : t559 = t560 := Option.some.inj (A56.out.symm.trans A58.out)
  clear A580
  obtain ⟨t561, A59, H⟩ := xO H
  (try dsimp only at H)
  by_cases c60 : (t559 != t561) = true
  ·rw [if_pos c60] at H; exact absurd H (by have hr_ := HRT.out; cases k <;> simp [laws_FnFirstRuns.j0, hr_])
  rw [if_neg c60] at H
  have c60b0 : (t559 != t561) = false := by simpa using c60
  (try (have c60b1 : decide (t559 = t561) = true := by simpa using c60))
  (try (have c60b2 : (t559 == t561) = true := by simpa using c60))
  clear c60
  by_cases c61 : t554 = true
  rotate_left
  ·as_aux_lemma =>
    replace c61 := Bool.eq_false_iff.mpr c61
    subst c61
    rw [if_neg (show ¬ (false = true) by decide)] at H
    have H' := xA H
    clear H
    try go_wp2
    replace HO525 := xA (Kd.R_drew HO525.out)
    replace HO529 := xA (Kd.R_drew HO529.out)
    replace HO533 := xA (Kd.R_drew HO533.out)
    replace HO537 := xA (Kd.R_drew HO537.out)
    replace HO541 := xA (Kd.R_drew HO541.out)
    replace BK526 := xA (blk_drew BK526.out)
    replace HB := xA (below_drew1 HB.out)
    obtain ⟨Ao71, co71, eo71⟩ := Kd.R_slice HO529.out
    (first | subst eo71 | (injection eo71 with f1_ f2_ f3_; have f4_ := f1_.symm; have f5_ := f3_.symm; clear f1_ f2_ f3_; subst f4_; subst f5_))
    obtain ⟨Ao72, co72, eo72⟩ := Kd.R_slice HO533.out
    (first | subst eo72 | (injection eo72 with f1_ f2_ f3_; have f4_ := f1_.symm; have f5_ := f3_.symm; clear f1_ f2_ f3_; subst f4_; subst f5_))
    refine start_ (n := 88) (S := fun w' => w'.cell? ⟨gb526, 0, none⟩ = some (.int .i64 t517) ∧ w'.cell? ⟨gb526, 1, none⟩ = some (.int .i64 t518) ∧ w'.cell? ⟨gb526, 2, none⟩ = some (.int .i64 t519) ∧ w'.cell? ⟨gb526, 3, none⟩ = some (.int .i64 t520) ∧ w'.cell? ⟨gb526, 4, none⟩ = some (.bool t521)) (ds := []) x14a0 (by kernel_rfl) rfl rfl ⟨(blk_cell BK526.out 0).trans rfl, (blk_cell BK526.out 1).trans rfl, (blk_cell BK526.out 2).trans rfl, (blk_cell BK526.out 3).trans rfl, (blk_cell BK526.out 4).trans rfl⟩ (fun hHeld => ?_); refine with_tabW laws_FnFirstRuns.tab14 laws_FnFirstRuns.bits14 (fun HT_ HW_ => ?_)
    generalize w39.drew = w70 at HO525 HO529 HO533 HO537 HO541 BK526 HB hHeld ⊢
    refine xP 0 134 x14a1 ?_
    refine xP 1 135 x14a2 ?_
    refine xP 2 136 x14a3 ?_
    refine xP 3 137 x14a4 ?_
    refine xP 4 138 x14a5 ?_
    refine xP 5 139 x14a6 ?_
    refine xU 6 140 x14a7 (fun K hK => ?_)
    refine xY Try.func44 #[.slice Ao71 t527.length co71, .slice Ao72 t531.length co72] ?_
    with_reducible refine (laws_uSame.calls k _ _ t527 _ _ t531 true _ ?side1 ?side2 ?side3 ?side4 A41.out).mono ?_
    (case side1 => exact xC ((Kd.R_reads' HO529.out).2.2))
    (case side2 => exact (Kd.R_reads' HO529.out).2.1)
    (case side3 => exact xC ((Kd.R_reads' HO533.out).2.2))
    (case side4 => exact (Kd.R_reads' HO533.out).2.1)
    rintro e w' ⟨rfl, ⟨nd, rfl⟩⟩
    refine ⟨_, rfl, ?_⟩
    obtain ⟨Ao73, co73, eo73⟩ := Kd.R_slice HO537.out
    (first | subst eo73 | (injection eo73 with f1_ f2_ f3_; have f4_ := f1_.symm; have f5_ := f3_.symm; clear f1_ f2_ f3_; subst f4_; subst f5_))
    obtain ⟨Ao74, co74, eo74⟩ := Kd.R_slice HO541.out
    (first | subst eo74 | (injection eo74 with f1_ f2_ f3_; have f4_ := f1_.symm; have f5_ := f3_.symm; clear f1_ f2_ f3_; subst f4_; subst f5_))
    refine hK.out _ _ ⟨(blk_cell BK526.out 0).trans rfl, (blk_cell BK526.out 1).trans rfl, (blk_cell BK526.out 2).trans rfl, (blk_cell BK526.out 3).trans rfl, (blk_cell BK526.out 4).trans rfl⟩ (fun hHeld => ?_)
    clear hK K
    refine xN ?_
    refine xP 7 141 x14a8 ?_
    refine xP 8 142 x14a9 ?_
    refine xP 9 143 x14a10 ?_
    refine xP 10 144 x14a11 ?_
    refine xP 11 145 x14a12 ?_
    refine xP 12 146 x14a13 ?_
    refine xP 13 147 x14a14 ?_
    refine xP 14 148 x14a15 ?_
    refine xP 15 149 x14a16 ?_
    refine xP 16 150 x14a17 ?_
    refine xU 17 151 x14a18 (fun K hK => ?_)
    refine xY Try.func44 #[.slice Ao73 t535.length co73, .slice Ao74 t539.length co74] ?_
    with_reducible refine (laws_uSame.calls k _ _ t535 _ _ t539 true _ ?side1 ?side2 ?side3 ?side4 A44.out).mono ?_
    (case side1 => exact xC ((Kd.R_reads' HO537.out).2.2))
    (case side2 => exact (Kd.R_reads' HO537.out).2.1)
    (case side3 => exact xC ((Kd.R_reads' HO541.out).2.2))
    (case side4 => exact (Kd.R_reads' HO541.out).2.1)
    rintro e w' ⟨rfl, ⟨nd, rfl⟩⟩
    refine ⟨_, rfl, ?_⟩
    refine hK.out _ _ ⟨(blk_cell BK526.out 0).trans rfl, (blk_cell BK526.out 1).trans rfl, (blk_cell BK526.out 2).trans rfl, (blk_cell BK526.out 3).trans rfl, (blk_cell BK526.out 4).trans rfl⟩ (fun hHeld => ?_)
    clear hK K
    refine xN ?_
    refine xP 18 152 x14a19 ?_
    refine xP 19 153 x14a20 ?_
    refine xP 20 154 x14a21 ?_
    refine xP 21 155 x14a22 ?_
    refine xP 22 156 x14a23 ?_
    refine xP 23 157 x14a24 ?_
    refine xP 24 158 x14a25 ?_
    refine xP 25 159 x14a26 ?_
    refine xP 26 160 x14a27 ?_
    refine xP 27 161 x14a28 ?_
    refine xP 28 162 x14a29 ?_
    refine xP 29 163 x14a30 ?_
    refine xP 30 164 x14a31 ?_
    refine xP 31 165 x14a32 ?_
    refine xP 32 166 x14a33 ?_
    refine xP 33 167 x14a34 ?_
    refine xP 34 168 x14a35 ?_
    refine xP 35 169 x14a36 ?_
    refine xP 36 170 x14a37 ?_
    refine xP 37 171 x14a38 ?_
    refine xP 38 172 x14a39 ?_
    refine xP 39 173 x14a40 ?_
    refine xP 40 174 x14a41 ?_
    refine xP 41 175 x14a42 ?_
    refine xP 42 176 x14a43 ?_
    refine xP 43 177 x14a44 ?_
    refine xP 44 178 x14a45 ?_
    refine xP 45 179 x14a46 ?_
    refine xP 46 180 x14a47 ?_
    refine xP 47 181 x14a48 ?_
    refine xP 48 182 x14a49 ?_
    refine xP 49 183 x14a50 ?_
    refine xP 50 184 x14a51 ?_
    refine xP 51 185 x14a52 ?_
    refine xP 52 186 x14a53 ?_
    refine xP 53 187 x14a54 ?_
    refine xP 54 188 x14a55 ?_
    refine xP 55 189 x14a56 ?_
    refine xP 56 190 x14a57 ?_
    refine xP 57 191 x14a58 ?_
    refine xP 58 192 x14a59 ?_
    refine xP 59 193 x14a60 ?_
    refine xP 60 194 x14a61 ?_
    refine xP 61 195 x14a62 ?_
    refine xP 62 196 x14a63 ?_
    refine xP 63 197 x14a64 ?_
    refine xP 64 198 x14a65 ?_
    refine xP 65 199 x14a66 ?_
    refine xP 66 200 x14a67 ?_
    refine xP 67 201 x14a68 ?_
    refine xP 68 202 x14a69 ?_
    refine xT5 hHeld 69 203 x14a70 ?_
    refine xU 70 204 x14a71 (fun K hK => ?_)
    refine xY Try.func97 #[.agg #[.int .i64 t517, .int .i64 t518, .int .i64 t519, .int .i64 t520, .bool t521]] ?_
    with_reducible refine (impl_IsFirst.calls t517 t518 t519 t520 t521 t559 _ A56.out).mono ?_
    rintro e w75 ⟨rfl, hb⟩
    refine ⟨_, rfl, ?_⟩
    replace HO525 := xA (Kd.R_below (xR HO525.out) hb)
    replace HO529 := xA (Kd.R_below (xR HO529.out) hb)
    replace HO533 := xA (Kd.R_below (xR HO533.out) hb)
    replace HO537 := xA (Kd.R_below (xR HO537.out) hb)
    replace HO541 := xA (Kd.R_below (xR HO541.out) hb)
    replace BK526 := xkb BK526 hb
    replace HB := xA (below_step (xB1 GE526.out HB.out) hb)
    (try clear hb); (try clear hb2); (try clear hk); (try clear hi)
    refine hK.out _ _ ⟨(blk_cell BK526.out 0).trans rfl, (blk_cell BK526.out 1).trans rfl, (blk_cell BK526.out 2).trans rfl, (blk_cell BK526.out 3).trans rfl, (blk_cell BK526.out 4).trans rfl⟩ (fun hHeld => ?_)
    clear hK K
    refine xN ?_
    refine xP 71 205 x14a72 ?_
    refine xP 72 206 x14a73 ?_
    refine xP 73 207 x14a74 ?_
    refine xT5 hHeld 74 208 x14a75 ?_
    refine xT5 hHeld 76 210 x14a76 ?_
    refine xU 75 209 x14a77 (fun K hK => ?_)
    refine xY Try.func97 #[.agg #[.int .i64 t517, .int .i64 t518, .int .i64 t519, .int .i64 t520, .bool t521]] ?_
    with_reducible refine (impl_IsFirst.calls t517 t518 t519 t520 t521 t559 _ A58.out).mono ?_
    rintro e w76 ⟨rfl, hb⟩
    refine ⟨_, rfl, ?_⟩
    replace HO525 := xA (Kd.R_below (xR HO525.out) hb)
    replace HO529 := xA (Kd.R_below (xR HO529.out) hb)
    replace HO533 := xA (Kd.R_below (xR HO533.out) hb)
    replace HO537 := xA (Kd.R_below (xR HO537.out) hb)
    replace HO541 := xA (Kd.R_below (xR HO541.out) hb)
    replace BK526 := xkb BK526 hb
    replace HB := xA (below_step (xB1 GE526.out HB.out) hb)
    (try clear hb); (try clear hb2); (try clear hk); (try clear hi)
    refine hK.out _ _ ⟨(blk_cell BK526.out 0).trans rfl, (blk_cell BK526.out 1).trans rfl, (blk_cell BK526.out 2).trans rfl, (blk_cell BK526.out 3).trans rfl, (blk_cell BK526.out 4).trans rfl⟩ (fun hHeld => ?_)
    clear hK K
    refine xN ?_
    refine xU 77 211 x14a78 (fun K hK => ?_)
    refine xY Try.func98 #[.agg #[.int .i64 t517, .int .i64 t518, .int .i64 t519, .int .i64 t520, .bool t521]] ?_
    with_reducible refine (spec_IsFirst.calls t517 t518 t519 t520 t521 t561 _ A59.out).mono ?_
    rintro e w77 ⟨rfl, hb⟩
    refine ⟨_, rfl, ?_⟩
    replace HO525 := xA (Kd.R_below (xR HO525.out) hb)
    replace HO529 := xA (Kd.R_below (xR HO529.out) hb)
    replace HO533 := xA (Kd.R_below (xR HO533.out) hb)
    replace HO537 := xA (Kd.R_below (xR HO537.out) hb)
    replace HO541 := xA (Kd.R_below (xR HO541.out) hb)
    replace BK526 := xkb BK526 hb
    replace HB := xA (below_step (xB1 GE526.out HB.out) hb)
    (try clear hb); (try clear hb2); (try clear hk); (try clear hi)
    refine hK.out _ _ ⟨(blk_cell BK526.out 0).trans rfl, (blk_cell BK526.out 1).trans rfl, (blk_cell BK526.out 2).trans rfl, (blk_cell BK526.out 3).trans rfl, (blk_cell BK526.out 4).trans rfl⟩ (fun hHeld => ?_)
    clear hK K
    refine xN ?_
    refine xP 78 212 x14a79 ?_
    refine xP 79 213 x14a80 ?_
    refine xP 80 214 x14a81 ?_
    refine xP 81 215 x14a82 ?_
    refine xP 82 216 x14a83 ?_
    refine xP 83 217 x14a84 ?_
    refine pure_ (i := 84) (N := some 218) (v := undef) (a' := ?_) x14a85 rfl rfl (any_of HT_.out (by kernel_rfl)) (fun _ _ _ h => h) (Or.inr ⟨by rfl, rfl⟩) ?_ ?_
    rotate_left
    ·exact xE
    refine xP 85 219 x14a86 ?_
    refine xP 86 220 x14a87 ?_
    refine xP 87 221 x14a88 ?_
    refine xDn ?_
    try go_wp2
    go_meet
    case rel => exact ⟨_, ((t549 != false)), xs, H', ⟨by first | omega | exact Nat.le_refl _⟩, ⟨by (with_reducible repeat (first | apply Kd.R_alloc | apply Kd.R_drewN | apply Kd.R_drew)); exact Kd.R_mono HO525.out (fun _ hk => ⟨hk.1.1.1.2, hk.1.2⟩)⟩, ⟨by (with_reducible repeat (first | apply Kd.R_alloc | apply Kd.R_drewN | apply Kd.R_drew)); exact Kd.R_mono HO529.out (fun _ hk => ⟨hk.1.1.1.2, hk.1.2⟩)⟩, ⟨by (with_reducible repeat (first | apply Kd.R_alloc | apply Kd.R_drewN | apply Kd.R_drew)); exact Kd.R_mono HO537.out (fun _ hk => ⟨hk.1.1.1.2, hk.1.1.2⟩)⟩, ⟨xK BK526.out⟩, ⟨xB1 GE526.out HB.out⟩⟩
  as_aux_lemma =>
    subst c61
    rw [if_pos rfl] at H
    have H' := xA H
    clear H
    try go_wp2
    replace HO525 := xA (Kd.R_drew HO525.out)
    replace HO529 := xA (Kd.R_drew HO529.out)
    replace HO533 := xA (Kd.R_drew HO533.out)
    replace HO537 := xA (Kd.R_drew HO537.out)
    replace HO541 := xA (Kd.R_drew HO541.out)
    replace BK526 := xA (blk_drew BK526.out)
    replace HB := xA (below_drew1 HB.out)
    obtain ⟨Ao63, co63, eo63⟩ := Kd.R_slice HO529.out
    (first | subst eo63 | (injection eo63 with f1_ f2_ f3_; have f4_ := f1_.symm; have f5_ := f3_.symm; clear f1_ f2_ f3_; subst f4_; subst f5_))
    obtain ⟨Ao64, co64, eo64⟩ := Kd.R_slice HO533.out
    (first | subst eo64 | (injection eo64 with f1_ f2_ f3_; have f4_ := f1_.symm; have f5_ := f3_.symm; clear f1_ f2_ f3_; subst f4_; subst f5_))
    refine start_ (n := 88) (S := fun w' => w'.cell? ⟨gb526, 0, none⟩ = some (.int .i64 t517) ∧ w'.cell? ⟨gb526, 1, none⟩ = some (.int .i64 t518) ∧ w'.cell? ⟨gb526, 2, none⟩ = some (.int .i64 t519) ∧ w'.cell? ⟨gb526, 3, none⟩ = some (.int .i64 t520) ∧ w'.cell? ⟨gb526, 4, none⟩ = some (.bool t521)) (ds := []) x14a0 (by kernel_rfl) rfl rfl ⟨(blk_cell BK526.out 0).trans rfl, (blk_cell BK526.out 1).trans rfl, (blk_cell BK526.out 2).trans rfl, (blk_cell BK526.out 3).trans rfl, (blk_cell BK526.out 4).trans rfl⟩ (fun hHeld => ?_); refine with_tabW laws_FnFirstRuns.tab14 laws_FnFirstRuns.bits14 (fun HT_ HW_ => ?_)
    generalize w39.drew = w62 at HO525 HO529 HO533 HO537 HO541 BK526 HB hHeld ⊢
    refine xP 0 134 x14a1 ?_
    refine xP 1 135 x14a2 ?_
    refine xP 2 136 x14a3 ?_
    refine xP 3 137 x14a4 ?_
    refine xP 4 138 x14a5 ?_
    refine xP 5 139 x14a6 ?_
    refine xU 6 140 x14a7 (fun K hK => ?_)
    refine xY Try.func44 #[.slice Ao63 t527.length co63, .slice Ao64 t531.length co64] ?_
    with_reducible refine (laws_uSame.calls k _ _ t527 _ _ t531 true _ ?side1 ?side2 ?side3 ?side4 A41.out).mono ?_
    (case side1 => exact xC ((Kd.R_reads' HO529.out).2.2))
    (case side2 => exact (Kd.R_reads' HO529.out).2.1)
    (case side3 => exact xC ((Kd.R_reads' HO533.out).2.2))
    (case side4 => exact (Kd.R_reads' HO533.out).2.1)
    rintro e w' ⟨rfl, ⟨nd, rfl⟩⟩
    refine ⟨_, rfl, ?_⟩
    obtain ⟨Ao65, co65, eo65⟩ := Kd.R_slice HO537.out
    (first | subst eo65 | (injection eo65 with f1_ f2_ f3_; have f4_ := f1_.symm; have f5_ := f3_.symm; clear f1_ f2_ f3_; subst f4_; subst f5_))
    obtain ⟨Ao66, co66, eo66⟩ := Kd.R_slice HO541.out
    (first | subst eo66 | (injection eo66 with f1_ f2_ f3_; have f4_ := f1_.symm; have f5_ := f3_.symm; clear f1_ f2_ f3_; subst f4_; subst f5_))
    refine hK.out _ _ ⟨(blk_cell BK526.out 0).trans rfl, (blk_cell BK526.out 1).trans rfl, (blk_cell BK526.out 2).trans rfl, (blk_cell BK526.out 3).trans rfl, (blk_cell BK526.out 4).trans rfl⟩ (fun hHeld => ?_)
    clear hK K
    refine xN ?_
    refine xP 7 141 x14a8 ?_
    refine xP 8 142 x14a9 ?_
    refine xP 9 143 x14a10 ?_
    refine xP 10 144 x14a11 ?_
    refine xP 11 145 x14a12 ?_
    refine xP 12 146 x14a13 ?_
    refine xP 13 147 x14a14 ?_
    refine xP 14 148 x14a15 ?_
    refine xP 15 149 x14a16 ?_
    refine xP 16 150 x14a17 ?_
    refine xU 17 151 x14a18 (fun K hK => ?_)
    refine xY Try.func44 #[.slice Ao65 t535.length co65, .slice Ao66 t539.length co66] ?_
    with_reducible refine (laws_uSame.calls k _ _ t535 _ _ t539 true _ ?side1 ?side2 ?side3 ?side4 A44.out).mono ?_
    (case side1 => exact xC ((Kd.R_reads' HO537.out).2.2))
    (case side2 => exact (Kd.R_reads' HO537.out).2.1)
    (case side3 => exact xC ((Kd.R_reads' HO541.out).2.2))
    (case side4 => exact (Kd.R_reads' HO541.out).2.1)
    rintro e w' ⟨rfl, ⟨nd, rfl⟩⟩
    refine ⟨_, rfl, ?_⟩
    refine hK.out _ _ ⟨(blk_cell BK526.out 0).trans rfl, (blk_cell BK526.out 1).trans rfl, (blk_cell BK526.out 2).trans rfl, (blk_cell BK526.out 3).trans rfl, (blk_cell BK526.out 4).trans rfl⟩ (fun hHeld => ?_)
    clear hK K
    refine xN ?_
    refine xP 18 152 x14a19 ?_
    refine xP 19 153 x14a20 ?_
    refine xP 20 154 x14a21 ?_
    refine xP 21 155 x14a22 ?_
    refine xP 22 156 x14a23 ?_
    refine xP 23 157 x14a24 ?_
    refine xP 24 158 x14a25 ?_
    refine xP 25 159 x14a26 ?_
    refine xP 26 160 x14a27 ?_
    refine xP 27 161 x14a28 ?_
    refine xP 28 162 x14a29 ?_
    refine xP 29 163 x14a30 ?_
    refine xP 30 164 x14a31 ?_
    refine xP 31 165 x14a32 ?_
    refine xP 32 166 x14a33 ?_
    refine xP 33 167 x14a34 ?_
    refine xP 34 168 x14a35 ?_
    refine xP 35 169 x14a36 ?_
    refine xP 36 170 x14a37 ?_
    refine xP 37 171 x14a38 ?_
    refine xP 38 172 x14a39 ?_
    refine xP 39 173 x14a40 ?_
    refine xP 40 174 x14a41 ?_
    refine xP 41 175 x14a42 ?_
    refine xP 42 176 x14a43 ?_
    refine xP 43 177 x14a44 ?_
    refine xP 44 178 x14a45 ?_
    refine xP 45 179 x14a46 ?_
    refine xP 46 180 x14a47 ?_
    refine xP 47 181 x14a48 ?_
    refine xP 48 182 x14a49 ?_
    refine xP 49 183 x14a50 ?_
    refine xP 50 184 x14a51 ?_
    refine xP 51 185 x14a52 ?_
    refine xP 52 186 x14a53 ?_
    refine xP 53 187 x14a54 ?_
    refine xP 54 188 x14a55 ?_
    refine xP 55 189 x14a56 ?_
    refine xP 56 190 x14a57 ?_
    refine xP 57 191 x14a58 ?_
    refine xP 58 192 x14a59 ?_
    refine xP 59 193 x14a60 ?_
    refine xP 60 194 x14a61 ?_
    refine xP 61 195 x14a62 ?_
    refine xP 62 196 x14a63 ?_
    refine xP 63 197 x14a64 ?_
    refine xP 64 198 x14a65 ?_
    refine xP 65 199 x14a66 ?_
    refine xP 66 200 x14a67 ?_
    refine xP 67 201 x14a68 ?_
    refine xP 68 202 x14a69 ?_
    refine xT5 hHeld 69 203 x14a70 ?_
    refine xU 70 204 x14a71 (fun K hK => ?_)
    refine xY Try.func97 #[.agg #[.int .i64 t517, .int .i64 t518, .int .i64 t519, .int .i64 t520, .bool t521]] ?_
    with_reducible refine (impl_IsFirst.calls t517 t518 t519 t520 t521 t559 _ A56.out).mono ?_
    rintro e w67 ⟨rfl, hb⟩
    refine ⟨_, rfl, ?_⟩
    replace HO525 := xA (Kd.R_below (xR HO525.out) hb)
    replace HO529 := xA (Kd.R_below (xR HO529.out) hb)
    replace HO533 := xA (Kd.R_below (xR HO533.out) hb)
    replace HO537 := xA (Kd.R_below (xR HO537.out) hb)
    replace HO541 := xA (Kd.R_below (xR HO541.out) hb)
    replace BK526 := xkb BK526 hb
    replace HB := xA (below_step (xB1 GE526.out HB.out) hb)
    (try clear hb); (try clear hb2); (try clear hk); (try clear hi)
    refine hK.out _ _ ⟨(blk_cell BK526.out 0).trans rfl, (blk_cell BK526.out 1).trans rfl, (blk_cell BK526.out 2).trans rfl, (blk_cell BK526.out 3).trans rfl, (blk_cell BK526.out 4).trans rfl⟩ (fun hHeld => ?_)
    clear hK K
    refine xN ?_
    refine xP 71 205 x14a72 ?_
    refine xP 72 206 x14a73 ?_
    refine xP 73 207 x14a74 ?_
    refine xT5 hHeld 74 208 x14a75 ?_
    refine xT5 hHeld 76 210 x14a76 ?_
    refine xU 75 209 x14a77 (fun K hK => ?_)
    refine xY Try.func97 #[.agg #[.int .i64 t517, .int .i64 t518, .int .i64 t519, .int .i64 t520, .bool t521]] ?_
    with_reducible refine (impl_IsFirst.calls t517 t518 t519 t520 t521 t559 _ A58.out).mono ?_
    rintro e w68 ⟨rfl, hb⟩
    refine ⟨_, rfl, ?_⟩
    replace HO525 := xA (Kd.R_below (xR HO525.out) hb)
    replace HO529 := xA (Kd.R_below (xR HO529.out) hb)
    replace HO533 := xA (Kd.R_below (xR HO533.out) hb)
    replace HO537 := xA (Kd.R_below (xR HO537.out) hb)
    replace HO541 := xA (Kd.R_below (xR HO541.out) hb)
    replace BK526 := xkb BK526 hb
    replace HB := xA (below_step (xB1 GE526.out HB.out) hb)
    (try clear hb); (try clear hb2); (try clear hk); (try clear hi)
    refine hK.out _ _ ⟨(blk_cell BK526.out 0).trans rfl, (blk_cell BK526.out 1).trans rfl, (blk_cell BK526.out 2).trans rfl, (blk_cell BK526.out 3).trans rfl, (blk_cell BK526.out 4).trans rfl⟩ (fun hHeld => ?_)
    clear hK K
    refine xN ?_
    refine xU 77 211 x14a78 (fun K hK => ?_)
    refine xY Try.func98 #[.agg #[.int .i64 t517, .int .i64 t518, .int .i64 t519, .int .i64 t520, .bool t521]] ?_
    with_reducible refine (spec_IsFirst.calls t517 t518 t519 t520 t521 t561 _ A59.out).mono ?_
    rintro e w69 ⟨rfl, hb⟩
    refine ⟨_, rfl, ?_⟩
    replace HO525 := xA (Kd.R_below (xR HO525.out) hb)
    replace HO529 := xA (Kd.R_below (xR HO529.out) hb)
    replace HO533 := xA (Kd.R_below (xR HO533.out) hb)
    replace HO537 := xA (Kd.R_below (xR HO537.out) hb)
    replace HO541 := xA (Kd.R_below (xR HO541.out) hb)
    replace BK526 := xkb BK526 hb
    replace HB := xA (below_step (xB1 GE526.out HB.out) hb)
    (try clear hb); (try clear hb2); (try clear hk); (try clear hi)
    refine hK.out _ _ ⟨(blk_cell BK526.out 0).trans rfl, (blk_cell BK526.out 1).trans rfl, (blk_cell BK526.out 2).trans rfl, (blk_cell BK526.out 3).trans rfl, (blk_cell BK526.out 4).trans rfl⟩ (fun hHeld => ?_)
    clear hK K
    refine xN ?_
    refine xP 78 212 x14a79 ?_
    refine xP 79 213 x14a80 ?_
    refine xP 80 214 x14a81 ?_
    refine xP 81 215 x14a82 ?_
    refine xP 82 216 x14a83 ?_
    refine xP 83 217 x14a84 ?_
    refine xP 84 218 x14a85 ?_
    refine xP 85 219 x14a86 ?_
    refine xP 86 220 x14a87 ?_
    refine xP 87 221 x14a88 ?_
    refine xDn ?_
    try go_wp2
    go_meet
    case rel => exact ⟨_, ((t549 != t553)), xs, H', ⟨by first | omega | exact Nat.le_refl _⟩, ⟨by (with_reducible repeat (first | apply Kd.R_alloc | apply Kd.R_drewN | apply Kd.R_drew)); exact Kd.R_mono HO525.out (fun _ hk => ⟨hk.1.1.1.2, hk.1.2⟩)⟩, ⟨by (with_reducible repeat (first | apply Kd.R_alloc | apply Kd.R_drewN | apply Kd.R_drew)); exact Kd.R_mono HO529.out (fun _ hk => ⟨hk.1.1.1.2, hk.1.2⟩)⟩, ⟨by (with_reducible repeat (first | apply Kd.R_alloc | apply Kd.R_drewN | apply Kd.R_drew)); exact Kd.R_mono HO537.out (fun _ hk => ⟨hk.1.1.1.2, hk.1.1.2⟩)⟩, ⟨xK BK526.out⟩, ⟨xB1 GE526.out HB.out⟩⟩
 case rest =>
  clear HC16
  try clear c4
  obtain ⟨kq, x221_15, rfl, HA, HJ15, HO_7, HO_8, HO_12, BK526, HB⟩ := hcut
  cases kq with
  | zero => exact absurd HA.out (by simp [laws_FnFirstRuns.j0])
  | succ kj15 =>
   have H := HA.out
   clear HA
   simp only [laws_FnFirstRuns.j0] at H
   by_cases c100 : x221_15 = true
   ·as_aux_lemma =>
     subst c100
     rw [if_pos rfl] at H
     exact absurd ((Option.some.inj H).trans HRT.out) (by decide)
   replace c100 := Bool.eq_false_iff.mpr c100
   subst c100
   rw [if_neg (show ¬ (false = true) by decide)] at H
   have HC101 := xA H
   clear H
   go_upto_if 222 with (fail)
   go_cut [] from 134 to 222 (fun wc => ∃ (kq : Nat), Aside0 (laws_FnFirstRuns.j3 kq l1 t527 t535 t538 t543 t547 t548 t549 t517 t518 t519 t520 t521 = some r) ∧ Aside0 (kq ≤ kj15) ∧ Aside0 (Kd.R (Kd.int .i64) 3 wc w.heap.size (fun k_ => some k_ ≠ (v536 : Value).ownBlock) v528 t527) ∧ Aside0 (Kd.R (Kd.int .i64) 3 wc w.heap.size (fun k_ => some k_ ≠ (v528 : Value).ownBlock) v536 t535) ∧ Aside0 (wc.heap[gb526]? = some (.cells #[.int .i64 t517, .int .i64 t518, .int .i64 t519, .int .i64 t520, .bool t521] 62 (0, 0))) ∧ Aside0 (Below w.heap.size w wc))
   case first => as_aux_lemma =>
    have H := HC101.out
    clear HC101
    by_cases c102 : t530 = true
    rotate_left
    ·as_aux_lemma =>
      replace c102 := Bool.eq_false_iff.mpr c102
      subst c102
      rw [if_neg (show ¬ (false = true) by decide)] at H
      have H' := xA H
      clear H
      go_wp2
      go_meet
      case rel => exact ⟨_, H', ⟨by have := HJ15.out; first | omega | exact Nat.le_refl _⟩, ⟨by (with_reducible repeat (first | apply Kd.R_alloc | apply Kd.R_drewN | apply Kd.R_drew)); exact Kd.R_mono HO_8.out (fun _ hk => hk.2)⟩, ⟨by (with_reducible repeat (first | apply Kd.R_alloc | apply Kd.R_drewN | apply Kd.R_drew)); exact Kd.R_mono HO_12.out (fun _ hk => hk.2)⟩, ⟨xK BK526.out⟩, ⟨xB1 GE526.out HB.out⟩⟩
    subst c102
    rw [if_pos rfl] at H
    have H' := xA H
    clear H
    go_wp2
    go_loopg [30, 31, 226] kj15 (fun kq v30 v31 v226 w' => ∃ (x30_2 : Int) (x31_2 : Int) (x226_2 : Int), v30 = .int .i64 x30_2 ∧ v31 = .int .i64 x31_2 ∧ v226 = .int .i64 x226_2 ∧ Aside0 (laws_FnFirstRuns.l0 kq l1 t523 t527 t535 t538 t543 t547 t548 t549 x30_2 x31_2 t523 (t523.length : Int) x226_2 t517 t518 t519 t520 t521 = some r) ∧ Aside0 (kq ≤ kj15) ∧ Aside0 (Kd.R (Kd.int .i64) 3 w' w.heap.size (fun k_ => some k_ ≠ (v528 : Value).ownBlock ∧ some k_ ≠ (v536 : Value).ownBlock) (.slice Ao20 t523.length co20) t523) ∧ Aside0 (Kd.R (Kd.int .i64) 3 w' w.heap.size (fun k_ => some k_ ≠ ((.slice Ao20 t523.length co20) : Value).ownBlock ∧ some k_ ≠ (v536 : Value).ownBlock ∧ some k_ ≠ ((.slice Ao20 t523.length co20) : Value).ownBlock) v528 t527) ∧ Aside0 (Kd.R (Kd.int .i64) 3 w' w.heap.size (fun k_ => some k_ ≠ ((.slice Ao20 t523.length co20) : Value).ownBlock ∧ some k_ ≠ (v528 : Value).ownBlock ∧ some k_ ≠ ((.slice Ao20 t523.length co20) : Value).ownBlock) v536 t535) ∧ Aside0 (Kd.R (Kd.int .i64) 3 w' w.heap.size (fun k_ => some k_ ≠ (v528 : Value).ownBlock ∧ some k_ ≠ (v536 : Value).ownBlock) (.slice Ao20 t523.length co20) t523) ∧ Aside0 (w'.heap[gb526]? = some (.cells #[.int .i64 t517, .int .i64 t518, .int .i64 t519, .int .i64 t520, .bool t521] 62 (0, 0))) ∧ Aside0 (Below w.heap.size w w'))
    case atStart => exact ⟨(t522), (0), (0), xs, xs, xs, H', ⟨Nat.le_refl _⟩, ⟨xR HO_7.out⟩, ⟨by (with_reducible repeat (first | apply Kd.R_alloc | apply Kd.R_drewN | apply Kd.R_drew)); exact Kd.R_mono HO_8.out (fun _ hk => ⟨hk.1, ⟨hk.2, hk.1⟩⟩)⟩, ⟨by (with_reducible repeat (first | apply Kd.R_alloc | apply Kd.R_drewN | apply Kd.R_drew)); exact Kd.R_mono HO_12.out (fun _ hk => ⟨hk.1, ⟨hk.2, hk.1⟩⟩)⟩, ⟨xR HO_7.out⟩, ⟨xK BK526.out⟩, ⟨xB1 GE526.out HB.out⟩⟩
    case round =>
     clear H'
     try clear c1
     try clear c100
     try clear c102
     obtain ⟨x30_2, x31_2, x226_2, rfl, rfl, rfl, HA, HK2, HO_7, HO_8, HO_12, HO_224, BK526, HB⟩ := hrel
     cases gk with
     | zero => exact absurd HA.out (by simp [laws_FnFirstRuns.l0])
     | succ k2 =>
      have H := HA.out
      clear HA
      simp only [laws_FnFirstRuns.l0] at H
      by_cases c103 : x226_2 < (t523.length : Int)
      rotate_left
      ·as_aux_lemma =>
        rw [if_neg c103] at H
        have c103b0 : decide (x226_2 < (t523.length : Int)) = false := decide_eq_false c103
        clear c103
        (first | rw [c103b0] | (simp only [i64_w, i32_w]; rw [c103b0]) | skip)
        by_cases c124 : x31_2 = t543
        rotate_left
        ·rw [if_neg c124] at H
         have c124b0 : (x31_2 == t543) = false := beq_eq_false_iff_ne.mpr c124
         have c124b1 : (x31_2 != t543) = true := bne_iff_ne.mpr c124
         exact absurd ((Option.some.inj H).trans HRT.out) (by decide)
        rw [if_pos c124] at H
        have c124b0 : (x31_2 == t543) = true := beq_iff_eq.mpr c124
        have c124b1 : (x31_2 != t543) = false := bne_eq_false_iff_eq.mpr c124
        clear c124
        by_cases c125 : (t527.length : Int) = (t523.length : Int)
        rotate_left
        ·rw [if_neg c125] at H
         have c125b0 : ((t527.length : Int) == (t523.length : Int)) = false := beq_eq_false_iff_ne.mpr c125
         have c125b1 : ((t527.length : Int) != (t523.length : Int)) = true := bne_iff_ne.mpr c125
         have c125b2 : (t527.length == t523.length) = false := by first | simpa using c125 | (simp at c125 ⊢; omega)
         exact absurd ((Option.some.inj H).trans HRT.out) (by decide)
        rw [if_pos c125] at H
        have c125b0 : ((t527.length : Int) == (t523.length : Int)) = true := beq_iff_eq.mpr c125
        have c125b1 : ((t527.length : Int) != (t523.length : Int)) = false := bne_eq_false_iff_eq.mpr c125
        have c125b2 : (t527.length == t523.length) = true := by first | simpa using c125 | (simp at c125 ⊢; omega)
        clear c125
        have H' := xA H
        clear H
        obtain ⟨Ao126, co126, eo126⟩ := Kd.R_slice HO_8.out
        subst eo126
        go_wp2
        go_meet
        case rel => exact ⟨_, H', ⟨by have := HJ15.out; have := HK2.out; first | omega | exact Nat.le_refl _⟩, ⟨by (with_reducible repeat (first | apply Kd.R_alloc | apply Kd.R_drewN | apply Kd.R_drew)); exact Kd.R_mono HO_8.out (fun _ hk => hk.2.1)⟩, ⟨by (with_reducible repeat (first | apply Kd.R_alloc | apply Kd.R_drewN | apply Kd.R_drew)); exact Kd.R_mono HO_12.out (fun _ hk => hk.2.1)⟩, ⟨xK BK526.out⟩, ⟨xB1 GE526.out HB.out⟩⟩
      rw [if_pos c103] at H
      have c103b0 : decide (x226_2 < (t523.length : Int)) = true := decide_eq_true c103
      clear c103
      (first | rw [c103b0] | (simp only [i64_w, i32_w]; rw [c103b0]) | skip)
      by_cases c104 : 0 ≤ x226_2
      rotate_left
      ·rw [if_neg c104] at H
       exact absurd H (by simp)
      rw [if_pos c104] at H
      have c104b0 : decide (0 ≤ x226_2) = true := decide_eq_true c104
      clear c104
      by_cases c105 : x226_2 < (t523.length : Int)
      rotate_left
      ·rw [if_neg c105] at H
       exact absurd H (by simp)
      rw [if_pos c105] at H
      have c105b0 : decide (x226_2 < (t523.length : Int)) = true := decide_eq_true c105
      clear c105
      replace H := Option.bind_eq_some_iff.mp H
      obtain ⟨⟨t566, t567⟩, A1060, H⟩ := H
      (try dsimp only at H)
      have A106 := xA A1060
      clear A1060
      replace H := Option.bind_eq_some_iff.mp H
      obtain ⟨⟨t568, t569⟩, A1070, H⟩ := H
      (try dsimp only at H)
      have A107 := xA A1070
      clear A1070
      have HC108 := xA H
      clear H
      have p565 : 0 ≤ (x226_2 : Int) := of_decide_eq_true (by first | (with_reducible assumption) | assumption)
      have q565 : x226_2 < (t523.length : Int) := of_decide_eq_true (by first | (with_reducible assumption) | assumption)
      obtain ⟨ad565, e565, hx565_0⟩ := Kd.at_int (Kd.R_reads' HO_224.out).2.2 x226_2 p565 q565
      cases e565
      replace p565 := eq_true p565
      replace q565 := eq_true q565
      obtain ⟨hcz109_0, hcz109_1, hcz109_2, hcz109_3, hcz109_4, hfz109_0, hfz109_1, hfz109_2, hfz109_3, hfz109_4⟩ := xZ5 BK526.out
      go_upto_region 23 with (first | (refine xq rfl ?_; first | (refine xG (some 235) Try.func99 #[.agg #[.int .i64 t517, .int .i64 t518, .int .i64 t519, .int .i64 t520, .bool t521], .int .i64 x30_2, .int .i64 (rd t523 x226_2)] ?_; (with_reducible refine (impl_FirstStep.calls k2 t517 t518 t519 t520 t521 x30_2 (rd t523 x226_2) t566 t567 _ A106.out).mono ?_); rintro e w110 ⟨rfl, hb⟩; refine ⟨_, rfl, ?_⟩; replace HO_7 := xA (Kd.R_below (xR HO_7.out) hb); replace HO_8 := xA (Kd.R_below (xR HO_8.out) hb); replace HO_12 := xA (Kd.R_below (xR HO_12.out) hb); replace HO_224 := xA (Kd.R_below (xR HO_224.out) hb); replace BK526 := xkb BK526 hb; replace HB := xA (below_step (xB1 GE526.out HB.out) hb); (try clear hb); obtain ⟨hcz111_0, hcz111_1, hcz111_2, hcz111_3, hcz111_4, hfz111_0, hfz111_1, hfz111_2, hfz111_3, hfz111_4⟩ := xZ5 BK526.out) | (refine xG (some 242) Try.func62 #[.agg #[.int .i64 t520, .bool t521], .int .i64 t566] ?_; (with_reducible refine (impl_FitNumber.calls t520 t521 t566 t568 t569 _ A107.out).mono ?_); rintro e w112 ⟨rfl, hb⟩; refine ⟨_, rfl, ?_⟩; replace HO_7 := xA (Kd.R_below (xR HO_7.out) hb); replace HO_8 := xA (Kd.R_below (xR HO_8.out) hb); replace HO_12 := xA (Kd.R_below (xR HO_12.out) hb); replace HO_224 := xA (Kd.R_below (xR HO_224.out) hb); replace BK526 := xkb BK526 hb; replace HB := xA (below_step (xB1 GE526.out HB.out) hb); (try clear hb))))
      (try simp only [Act.put, List.setIfInBounds_toArray, List.set_cons_zero, List.set_cons_succ])
      go_cut [263] from 227 to 244 (fun v263 wc => ∃ (kq : Nat) (x263_107 : Bool), v263 = .bool x263_107 ∧ Aside0 (laws_FnFirstRuns.j2 kq l1 t523 t527 t535 t538 t543 t547 t548 t549 x30_2 x31_2 (rd t523 x226_2) t566 t523 (t523.length : Int) x226_2 x263_107 t517 t518 t519 t520 t521 = some r) ∧ Aside0 (kq ≤ k2) ∧ Aside0 (Kd.R (Kd.int .i64) 3 wc w.heap.size (fun k_ => some k_ ≠ (v528 : Value).ownBlock ∧ some k_ ≠ (v536 : Value).ownBlock) (.slice (some ad565) t523.length co20) t523) ∧ Aside0 (Kd.R (Kd.int .i64) 3 wc w.heap.size (fun k_ => some k_ ≠ ((.slice (some ad565) t523.length co20) : Value).ownBlock ∧ some k_ ≠ (v536 : Value).ownBlock ∧ some k_ ≠ ((.slice (some ad565) t523.length co20) : Value).ownBlock) v528 t527) ∧ Aside0 (Kd.R (Kd.int .i64) 3 wc w.heap.size (fun k_ => some k_ ≠ ((.slice (some ad565) t523.length co20) : Value).ownBlock ∧ some k_ ≠ (v528 : Value).ownBlock ∧ some k_ ≠ ((.slice (some ad565) t523.length co20) : Value).ownBlock) v536 t535) ∧ Aside0 (Kd.R (Kd.int .i64) 3 wc w.heap.size (fun k_ => some k_ ≠ (v528 : Value).ownBlock ∧ some k_ ≠ (v536 : Value).ownBlock) (.slice (some ad565) t523.length co20) t523) ∧ Aside0 (wc.heap[gb526]? = some (.cells #[.int .i64 t517, .int .i64 t518, .int .i64 t519, .int .i64 t520, .bool t521] 62 (0, 0))) ∧ Aside0 (Below w.heap.size w wc))
      case first => as_aux_lemma =>
       have H := HC108.out
       clear HC108
       by_cases c113 : t567 = true
       rotate_left
       ·replace c113 := Bool.eq_false_iff.mpr c113; subst c113; exact absurd H (by have hr_ := HRT.out; cases k2 <;> simp [laws_FnFirstRuns.j2, hr_])
       as_aux_lemma =>
        subst c113
        rw [if_pos rfl] at H
        by_cases c114 : x226_2 < (t527.length : Int)
        rotate_left
        ·rw [if_neg c114] at H
         exact absurd H (by simp)
        rw [if_pos c114] at H
        have c114b0 : decide (x226_2 < (t527.length : Int)) = true := decide_eq_true c114
        clear c114
        (first | rw [c114b0] | (simp only [i64_w, i32_w]; rw [c114b0]) | skip)
        by_cases c115 : t566 = (rd t527 x226_2)
        rotate_left
        ·rw [if_neg c115] at H; exact absurd H (by have hr_ := HRT.out; cases k2 <;> simp [laws_FnFirstRuns.j2, hr_])
        rw [if_pos c115] at H
        have c115b0 : (t566 == (rd t527 x226_2)) = true := beq_iff_eq.mpr c115
        have c115b1 : (t566 != (rd t527 x226_2)) = false := bne_eq_false_iff_eq.mpr c115
        clear c115
        by_cases c116 : t569 = true
        rotate_left
        ·replace c116 := Bool.eq_false_iff.mpr c116; subst c116; exact absurd H (by have hr_ := HRT.out; cases k2 <;> simp [laws_FnFirstRuns.j2, hr_])
        subst c116
        rw [if_pos rfl] at H
        have H' := xA H
        clear H
        obtain ⟨Ao117, co117, eo117⟩ := Kd.R_slice HO_8.out
        subst eo117
        have p570 : 0 ≤ (x226_2 : Int) := of_decide_eq_true (by first | (with_reducible assumption) | assumption)
        have q570 : x226_2 < (t527.length : Int) := of_decide_eq_true (by first | (with_reducible assumption) | assumption)
        obtain ⟨ad570, e570, hx570_0⟩ := Kd.at_int (Kd.R_reads' HO_8.out).2.2 x226_2 p570 q570
        cases e570
        replace p570 := eq_true p570
        replace q570 := eq_true q570
        go_wp2
        go_meet
        case rel => exact ⟨_, ((t568 != t566)), xs, H', ⟨by have := HJ15.out; have := HK2.out; first | omega | exact Nat.le_refl _⟩, ⟨xR HO_7.out⟩, ⟨xR HO_8.out⟩, ⟨xR HO_12.out⟩, ⟨xR HO_224.out⟩, ⟨xK BK526.out⟩, ⟨xB1 GE526.out HB.out⟩⟩
      case rest => as_aux_lemma =>
       clear HC108
       try clear c103b0
       try clear c104b0
       try clear c105b0
       try clear hcz109_0
       try clear hcz109_1
       try clear hcz109_2
       try clear hcz109_3
       try clear hcz109_4
       try clear hcz111_0
       try clear hcz111_1
       try clear hcz111_2
       try clear hcz111_3
       try clear hcz111_4
       try clear hfz109_0
       try clear hfz109_1
       try clear hfz109_2
       try clear hfz109_3
       try clear hfz109_4
       try clear hfz111_0
       try clear hfz111_1
       try clear hfz111_2
       try clear hfz111_3
       try clear hfz111_4
       try clear hx565_0
       try clear p565
       try clear q565
       obtain ⟨kq, x263_107, rfl, HA, HJ107, HO_7, HO_8, HO_12, HO_224, BK526, HB⟩ := hcut
       cases kq with
       | zero => exact absurd HA.out (by simp [laws_FnFirstRuns.j2])
       | succ kj107 =>
        have H := HA.out
        clear HA
        simp only [laws_FnFirstRuns.j2] at H
        by_cases c118 : x263_107 = true
        ·as_aux_lemma =>
          subst c118
          rw [if_pos rfl] at H
          exact absurd ((Option.some.inj H).trans HRT.out) (by decide)
        replace c118 := Bool.eq_false_iff.mpr c118
        subst c118
        rw [if_neg (show ¬ (false = true) by decide)] at H
        replace H := Option.bind_eq_some_iff.mp H
        obtain ⟨⟨t571, t572⟩, A1190, H⟩ := H
        (try dsimp only at H)
        have A119 := xA A1190
        clear A1190
        by_cases c120 : t572 = true
        rotate_left
        ·as_aux_lemma =>
          replace c120 := Bool.eq_false_iff.mpr c120
          subst c120
          rw [if_neg (show ¬ (false = true) by decide)] at H
          exact absurd ((Option.some.inj H).trans HRT.out) (by decide)
        as_aux_lemma =>
         subst c120
         rw [if_pos rfl] at H
         by_cases c121 : (wrap64 (t571 + (rd t523 x226_2))) = t566
         rotate_left
         ·rw [if_neg c121] at H
          have c121b0 : ((wrap64 (t571 + (rd t523 x226_2))) == t566) = false := beq_eq_false_iff_ne.mpr c121
          have c121b1 : ((wrap64 (t571 + (rd t523 x226_2))) != t566) = true := bne_iff_ne.mpr c121
          have H' := xA H
          clear H
          replace hz526 := blk_cell BK526.out; replace hy526 := blk_frozen BK526.out
          go_wp2_with (first | (refine xG (some 273) Try.func61 #[.int .i64 (wrap64 (t517 * x30_2)), .int .i64 t518, .int .i64 t519] ?_; (with_reducible refine (impl_RoundShift.calls kj107 (wrap64 (t517 * x30_2)) t518 t519 t571 true _ A119.out).mono ?_); rintro e w' ⟨rfl, ⟨nd, rfl⟩⟩; refine ⟨_, rfl, ?_⟩))
          go_roundg kj107
          case measure => have := HJ15.out; have := HK2.out; have := HJ107.out; omega
          case rel => exact ⟨(t566), (wrap64 (x31_2 + 1)), (wrap64 (x226_2 + 1)), xs, xs, xs, H', ⟨by have := HJ15.out; have := HK2.out; have := HJ107.out; omega⟩, ⟨xR HO_7.out⟩, ⟨xR HO_8.out⟩, ⟨xR HO_12.out⟩, ⟨xR HO_224.out⟩, ⟨xK BK526.out⟩, ⟨xB1 GE526.out HB.out⟩⟩
         rw [if_pos c121] at H
         have c121b0 : ((wrap64 (t571 + (rd t523 x226_2))) == t566) = true := beq_iff_eq.mpr c121
         have c121b1 : ((wrap64 (t571 + (rd t523 x226_2))) != t566) = false := bne_eq_false_iff_eq.mpr c121
         clear c121
         have H' := xA H
         clear H
         replace hz526 := blk_cell BK526.out; replace hy526 := blk_frozen BK526.out
         go_wp2_with (first | (refine xG (some 273) Try.func61 #[.int .i64 (wrap64 (t517 * x30_2)), .int .i64 t518, .int .i64 t519] ?_; (with_reducible refine (impl_RoundShift.calls kj107 (wrap64 (t517 * x30_2)) t518 t519 t571 true _ A119.out).mono ?_); rintro e w' ⟨rfl, ⟨nd, rfl⟩⟩; refine ⟨_, rfl, ?_⟩))
         go_roundg kj107
         case measure => have := HJ15.out; have := HK2.out; have := HJ107.out; omega
         case rel => exact ⟨(t566), (x31_2), (wrap64 (x226_2 + 1)), xs, xs, xs, H', ⟨by have := HJ15.out; have := HK2.out; have := HJ107.out; omega⟩, ⟨xR HO_7.out⟩, ⟨xR HO_8.out⟩, ⟨xR HO_12.out⟩, ⟨xR HO_224.out⟩, ⟨xK BK526.out⟩, ⟨xB1 GE526.out HB.out⟩⟩
   case rest => as_aux_lemma =>
    clear HC101
    try clear c1
    try clear c100
    obtain ⟨kq, HA, HJ100, HO_8, HO_12, BK526, HB⟩ := hcut
    cases kq with
    | zero => exact absurd HA.out (by simp [laws_FnFirstRuns.j3])
    | succ kj100 =>
     have H := HA.out
     clear HA
     simp only [laws_FnFirstRuns.j3] at H
     have HC127 := xA H
     clear H
     go_upto_region 34 with (fail)
     go_cut [304] from 245 to 296 (fun v304 wc => ∃ (kq : Nat) (x304_126 : Bool), v304 = .bool x304_126 ∧ Aside0 (laws_FnFirstRuns.j4 kq l1 t527 t535 t547 t548 x304_126 t517 t518 t519 t520 t521 = some r) ∧ Aside0 (kq ≤ kj100) ∧ Aside0 (Kd.R (Kd.int .i64) 3 wc w.heap.size (fun k_ => some k_ ≠ (v536 : Value).ownBlock) v528 t527) ∧ Aside0 (Kd.R (Kd.int .i64) 3 wc w.heap.size (fun k_ => some k_ ≠ (v528 : Value).ownBlock) v536 t535) ∧ Aside0 (wc.heap[gb526]? = some (.cells #[.int .i64 t517, .int .i64 t518, .int .i64 t519, .int .i64 t520, .bool t521] 62 (0, 0))) ∧ Aside0 (Below w.heap.size w wc))
     case first => as_aux_lemma =>
      have H := HC127.out
      clear HC127
      by_cases c128 : t538 = true
      rotate_left
      ·as_aux_lemma =>
        replace c128 := Bool.eq_false_iff.mpr c128
        subst c128
        rw [if_neg (show ¬ (false = true) by decide)] at H
        have H' := xA H
        clear H
        go_wp2
        go_meet
        case rel => exact ⟨_, (false), xs, H', ⟨by have := HJ15.out; have := HJ100.out; first | omega | exact Nat.le_refl _⟩, ⟨xR HO_8.out⟩, ⟨xR HO_12.out⟩, ⟨xK BK526.out⟩, ⟨xB1 GE526.out HB.out⟩⟩
      as_aux_lemma =>
       subst c128
       rw [if_pos rfl] at H
       by_cases c129 : t549 = true
       ·subst c129
        rw [if_pos rfl] at H
        have H' := xA H
        clear H
        go_wp2
        go_meet
        case rel => exact ⟨_, ((t543 == 0)), xs, H', ⟨by have := HJ15.out; have := HJ100.out; first | omega | exact Nat.le_refl _⟩, ⟨xR HO_8.out⟩, ⟨xR HO_12.out⟩, ⟨xK BK526.out⟩, ⟨xB1 GE526.out HB.out⟩⟩
       replace c129 := Bool.eq_false_iff.mpr c129
       subst c129
       rw [if_neg (show ¬ (false = true) by decide)] at H
       have H' := xA H
       clear H
       go_wp2
       go_meet
       case rel => exact ⟨_, (false), xs, H', ⟨by have := HJ15.out; have := HJ100.out; first | omega | exact Nat.le_refl _⟩, ⟨xR HO_8.out⟩, ⟨xR HO_12.out⟩, ⟨xK BK526.out⟩, ⟨xB1 GE526.out HB.out⟩⟩
     case rest => as_aux_lemma =>
      clear HC127
      obtain ⟨kq, x304_126, rfl, HA, HJ126, HO_8, HO_12, BK526, HB⟩ := hcut
      cases kq with
      | zero => exact absurd HA.out (by simp [laws_FnFirstRuns.j4])
      | succ kj126 =>
       have H := HA.out
       clear HA
       simp only [laws_FnFirstRuns.j4] at H
       have HC130 := xA H
       clear H
       go_upto_if 304 with (fail)
       go_cut [] from 297 to 304 (fun wc => ∃ (kq : Nat), Aside0 (laws_FnFirstRuns.j6 kq l1 = some r) ∧ Aside0 (kq ≤ kj126) ∧ Aside0 (wc.heap[gb526]? = some (.cells #[.int .i64 t517, .int .i64 t518, .int .i64 t519, .int .i64 t520, .bool t521] 62 (0, 0))) ∧ Aside0 (Below w.heap.size w wc))
       case first => as_aux_lemma =>
        have H := HC130.out
        clear HC130
        by_cases c131 : x304_126 = true
        rotate_left
        ·as_aux_lemma =>
          replace c131 := Bool.eq_false_iff.mpr c131
          subst c131
          rw [if_neg (show ¬ (false = true) by decide)] at H
          have H' := xA H
          clear H
          go_wp2
          go_meet
          case rel => exact ⟨_, H', ⟨by have := HJ15.out; have := HJ100.out; have := HJ126.out; first | omega | exact Nat.le_refl _⟩, ⟨xK BK526.out⟩, ⟨xB1 GE526.out HB.out⟩⟩
        subst c131
        rw [if_pos rfl] at H
        have H' := xA H
        clear H
        obtain ⟨Ao132, co132, eo132⟩ := Kd.R_slice HO_12.out
        subst eo132
        go_wp2
        go_loopg [40, 307] kj126 (fun kq v40 v307 w' => ∃ (x40_4 : Int) (x307_4 : Int), v40 = .int .i64 x40_4 ∧ v307 = .int .i64 x307_4 ∧ Aside0 (laws_FnFirstRuns.l1 kq l1 t527 t547 t548 x40_4 t535 (t535.length : Int) x307_4 t517 t518 t519 t520 t521 = some r) ∧ Aside0 (kq ≤ kj126) ∧ Aside0 (Kd.R (Kd.int .i64) 3 w' w.heap.size (fun k_ => some k_ ≠ ((.slice Ao132 t535.length co132) : Value).ownBlock) v528 t527) ∧ Aside0 (Kd.R (Kd.int .i64) 3 w' w.heap.size (fun k_ => some k_ ≠ (v528 : Value).ownBlock) (.slice Ao132 t535.length co132) t535) ∧ Aside0 (w'.heap[gb526]? = some (.cells #[.int .i64 t517, .int .i64 t518, .int .i64 t519, .int .i64 t520, .bool t521] 62 (0, 0))) ∧ Aside0 (Below w.heap.size w w'))
        case atStart => exact ⟨(1), (0), xs, xs, H', ⟨Nat.le_refl _⟩, ⟨xR HO_8.out⟩, ⟨xR HO_12.out⟩, ⟨xK BK526.out⟩, ⟨xB1 GE526.out HB.out⟩⟩
        case round =>
         clear H'
         try clear c131
         obtain ⟨x40_4, x307_4, rfl, rfl, HA, HK4, HO_8, HO_305, BK526, HB⟩ := hrel
         cases gk with
         | zero => exact absurd HA.out (by simp [laws_FnFirstRuns.l1])
         | succ k4 =>
          have H := HA.out
          clear HA
          simp only [laws_FnFirstRuns.l1] at H
          by_cases c133 : x307_4 < (t535.length : Int)
          rotate_left
          ·as_aux_lemma =>
            rw [if_neg c133] at H
            have c133b0 : decide (x307_4 < (t535.length : Int)) = false := decide_eq_false c133
            clear c133
            (first | rw [c133b0] | (simp only [i64_w, i32_w]; rw [c133b0]) | skip)
            have H' := xA H
            clear H
            go_wp2
            go_meet
            case rel => exact ⟨_, H', ⟨by have := HJ15.out; have := HJ100.out; have := HJ126.out; have := HK4.out; first | omega | exact Nat.le_refl _⟩, ⟨xK BK526.out⟩, ⟨xB1 GE526.out HB.out⟩⟩
          rw [if_pos c133] at H
          have c133b0 : decide (x307_4 < (t535.length : Int)) = true := decide_eq_true c133
          clear c133
          (first | rw [c133b0] | (simp only [i64_w, i32_w]; rw [c133b0]) | skip)
          by_cases c134 : 0 ≤ x307_4
          rotate_left
          ·rw [if_neg c134] at H
           exact absurd H (by simp)
          rw [if_pos c134] at H
          have c134b0 : decide (0 ≤ x307_4) = true := decide_eq_true c134
          clear c134
          by_cases c135 : x307_4 < (t535.length : Int)
          rotate_left
          ·rw [if_neg c135] at H
           exact absurd H (by simp)
          rw [if_pos c135] at H
          have c135b0 : decide (x307_4 < (t535.length : Int)) = true := decide_eq_true c135
          clear c135
          by_cases c136 : 0 ≤ t518
          rotate_left
          ·rw [if_neg c136] at H
           exact absurd H (by simp)
          rw [if_pos c136] at H
          have c136b0 := eq_true c136
          have c136b1 : decide (0 ≤ t518) = true := decide_eq_true c136
          clear c136
          obtain ⟨ji137, hji137⟩ : ∃ j_ : Int, (shl .i64 x40_4 t518) = j_ := ⟨_, rfl⟩
          (first | rw [hji137] at H | simp only [hji137] at H)
          obtain ⟨hji137_, hji137z, hji137y, hji137x⟩ := xSh hji137
          by_cases c138 : x307_4 < (t527.length : Int)
          rotate_left
          ·rw [if_neg c138] at H
           exact absurd H (by simp)
          rw [if_pos c138] at H
          have c138b0 : decide (x307_4 < (t527.length : Int)) = true := decide_eq_true c138
          clear c138
          obtain ⟨t575, A139, H⟩ := xO H
          (try dsimp only at H)
          by_cases c140 : t547 = 0
          ·rw [if_pos c140] at H
           exact absurd H (by simp)
          rw [if_neg c140] at H
          have c140b0 : (t547 == 0) = false := beq_eq_false_iff_ne.mpr c140
          have c140b1 : (t547 != 0) = true := bne_iff_ne.mpr c140
          by_cases c141 : t548 = 0
          ·rw [if_pos c141] at H
           exact absurd H (by simp)
          rw [if_neg c141] at H
          have c141b0 : (t548 == 0) = false := beq_eq_false_iff_ne.mpr c141
          have c141b1 : (t548 != 0) = true := bne_iff_ne.mpr c141
          by_cases c142 : (wrap64 (Int.tdiv t575 t547)) > (wrap64 ((wrap64 (Int.tdiv (ji137) t548)) + 1))
          ·rw [if_pos c142] at H
           have c142b0 : decide ((wrap64 ((wrap64 (Int.tdiv (ji137) t548)) + 1)) < (wrap64 (Int.tdiv t575 t547))) = true := decide_eq_true c142
           clear c142
           exact absurd ((Option.some.inj H).trans HRT.out) (by decide)
          rw [if_neg c142] at H
          have c142b0 : decide ((wrap64 ((wrap64 (Int.tdiv (ji137) t548)) + 1)) < (wrap64 (Int.tdiv t575 t547))) = false := decide_eq_false c142
          clear c142
          by_cases c143 : t575 ≤ 1099511627776
          rotate_left
          ·rw [if_neg c143] at H
           have c143b0 : decide (t575 ≤ 1099511627776) = false := decide_eq_false c143
           clear c143
           have H' := xA H
           clear H
           have p573 : 0 ≤ (x307_4 : Int) := of_decide_eq_true (by first | (with_reducible assumption) | assumption)
           have q573 : x307_4 < (t535.length : Int) := of_decide_eq_true (by first | (with_reducible assumption) | assumption)
           obtain ⟨ad573, e573, hx573_0⟩ := Kd.at_int (Kd.R_reads' HO_305.out).2.2 x307_4 p573 q573
           cases e573
           replace p573 := eq_true p573
           replace q573 := eq_true q573
           replace hz526 := blk_cell BK526.out; replace hy526 := blk_frozen BK526.out
           obtain ⟨Ao149, co149, eo149⟩ := Kd.R_slice HO_8.out
           subst eo149
           have p574 : 0 ≤ (x307_4 : Int) := of_decide_eq_true (by first | (with_reducible assumption) | assumption)
           have q574 : x307_4 < (t527.length : Int) := of_decide_eq_true (by first | (with_reducible assumption) | assumption)
           obtain ⟨ad574, e574, hx574_0⟩ := Kd.at_int (Kd.R_reads' HO_8.out).2.2 x307_4 p574 q574
           cases e574
           replace p574 := eq_true p574
           replace q574 := eq_true q574
           try go_wp2_with (first | ((with_reducible refine gate_callee (f := 46) rfl ?_); refine goesL_ (some 324) rfl rfl Try.func46 (by kernel_rfl) rfl #[.int .i64 (wrap64 ((wrap64 ((rd t527 x307_4) * (ji137))) - (rd t535 x307_4)))] rfl (by (try simp only [List.map_toArray, List.map_cons, List.map_nil]); first | done | (simp only [hji137]; rfl) | rfl | (simp only [List.length_drop, List.length_take]; rfl)) ?_; (with_reducible refine (laws_uAbs.calls (wrap64 ((wrap64 ((rd t527 x307_4) * (ji137))) - (rd t535 x307_4))) t575 _ A139.out).mono ?_); rintro e w' ⟨rfl, ⟨nd, rfl⟩⟩; refine ⟨_, rfl, ?_⟩))
           (try (rw [drewN_self wr]; generalize hq_ : World.drewN wr _ = wr; have n0_ : Aside0 (Kd.R (Kd.int .i64) 3 wr w.heap.size (fun k_ => some k_ ≠ (.slice (some ad574) t527.length co149 : Value).ownBlock) (.slice (some ad573) t535.length co132) t535) := ⟨by rw [← hq_]; exact (xR HO_305.out)⟩; have n1_ : Aside0 (Kd.R (Kd.int .i64) 3 wr w.heap.size (fun k_ => some k_ ≠ (.slice (some ad573) t535.length co132 : Value).ownBlock) (.slice (some ad574) t527.length co149) t527) := ⟨by rw [← hq_]; exact (xR HO_8.out)⟩; have n2_ : Aside0 (wr.heap[gb526]? = some (.cells #[.int .i64 t517, .int .i64 t518, .int .i64 t519, .int .i64 t520, .bool t521] 62 (0, 0))) := ⟨by rw [← hq_]; exact (xK BK526.out)⟩; have n3_ : Aside0 (Below w.heap.size w wr) := ⟨by rw [← hq_]; exact (xB1 GE526.out HB.out)⟩; clear HO_305 HO_8 BK526 HB hq_; have HO_305 := n0_; have HO_8 := n1_; have BK526 := n2_; have HB := n3_; clear n0_ n1_ n2_ n3_))
           replace HO_8 := xA (Kd.R_drew HO_8.out)
           replace HO_305 := xA (Kd.R_drew HO_305.out)
           replace BK526 := xA (blk_drew BK526.out)
           replace HB := xA (below_drew1 HB.out)
           refine start_ (n := 21) (S := fun w' => True) (ds := []) x14a89 (by kernel_rfl) rfl rfl trivial (fun hHeld => ?_); refine with_tabW laws_FnFirstRuns.tab41 laws_FnFirstRuns.bits41 (fun HT_ HW_ => ?_)
           generalize wr.drew = w150 at HO_8 HO_305 BK526 HB hHeld ⊢
           refine xP 0 325 x14a90 ?_
           refine xP 1 326 x14a91 ?_
           refine xP 2 327 x14a92 ?_
           refine xP 3 328 x14a93 ?_
           refine xP 4 329 x14a94 ?_
           refine xP 5 330 x14a95 ?_
           refine xP 6 331 x14a96 ?_
           refine xP 7 332 x14a97 ?_
           refine xP 8 333 x14a98 ?_
           refine xP 9 334 x14a99 ?_
           refine xP 10 335 x14a100 ?_
           refine xP 11 336 x14a101 ?_
           refine pure_ (i := 12) (N := some 337) (v := undef) (a' := ?_) x14a102 rfl rfl (any_of HT_.out (by kernel_rfl)) (fun _ _ _ h => h) (Or.inr ⟨by rfl, rfl⟩) ?_ ?_
           rotate_left
           ·exact xE
           refine pure_ (i := 13) (N := some 338) (v := undef) (a' := ?_) x14a103 rfl rfl (any_of HT_.out (by kernel_rfl)) (fun _ _ _ h => h) (Or.inr ⟨by rfl, rfl⟩) ?_ ?_
           rotate_left
           ·exact xE
           refine pure_ (i := 14) (N := some 339) (v := undef) (a' := ?_) x14a104 rfl rfl (any_of HT_.out (by kernel_rfl)) (fun _ _ _ h => h) (Or.inr ⟨by rfl, rfl⟩) ?_ ?_
           rotate_left
           ·exact xE
           refine pure_ (i := 15) (N := some 340) (v := undef) (a' := ?_) x14a105 rfl rfl (any_of HT_.out (by kernel_rfl)) (fun _ _ _ h => h) (Or.inr ⟨by rfl, rfl⟩) ?_ ?_
           rotate_left
           ·exact xE
           refine pure_ (i := 16) (N := some 341) (v := undef) (a' := ?_) x14a106 rfl rfl (any_of HT_.out (by kernel_rfl)) (fun _ _ _ h => h) (Or.inr ⟨by rfl, rfl⟩) ?_ ?_
           rotate_left
           ·exact xE
           refine pure_ (i := 17) (N := some 342) (v := undef) (a' := ?_) x14a107 rfl rfl (any_of HT_.out (by kernel_rfl)) (fun _ _ _ h => h) (Or.inr ⟨by rfl, rfl⟩) ?_ ?_
           rotate_left
           ·exact xE
           refine pure_ (i := 18) (N := some 343) (v := undef) (a' := ?_) x14a108 rfl rfl (any_of HT_.out (by kernel_rfl)) (fun _ _ _ h => h) (Or.inr ⟨by rfl, rfl⟩) ?_ ?_
           rotate_left
           ·exact xE
           refine xP 19 344 x14a109 ?_
           refine xP 20 345 x14a110 ?_
           refine xDn ?_
           try go_wp2
           go_roundg k4
           case measure => have := HJ15.out; have := HJ100.out; have := HJ126.out; have := HK4.out; omega
           case rel => exact ⟨(ji137), (wrap64 (x307_4 + 1)), (by first | rfl | (simp; done) | (simp only [← hji137] <;> (first | rfl | simp)) | (simp [*]; done)), xs, H', ⟨by have := HJ15.out; have := HJ100.out; have := HJ126.out; have := HK4.out; omega⟩, ⟨xR HO_8.out⟩, ⟨xR HO_305.out⟩, ⟨xK BK526.out⟩, ⟨xB1 GE526.out HB.out⟩⟩
          rw [if_pos c143] at H
          have c143b0 : decide (t575 ≤ 1099511627776) = true := decide_eq_true c143
          clear c143
          by_cases c144 : (wrap64 (t575 * t548)) > (wrap64 (t547 * (ji137)))
          ·rw [if_pos c144] at H
           have c144b0 : decide ((wrap64 (t547 * (ji137))) < (wrap64 (t575 * t548))) = true := decide_eq_true c144
           clear c144
           exact absurd ((Option.some.inj H).trans HRT.out) (by decide)
          rw [if_neg c144] at H
          have c144b0 : decide ((wrap64 (t547 * (ji137))) < (wrap64 (t575 * t548))) = false := decide_eq_false c144
          clear c144
          have H' := xA H
          clear H
          have p573 : 0 ≤ (x307_4 : Int) := of_decide_eq_true (by first | (with_reducible assumption) | assumption)
          have q573 : x307_4 < (t535.length : Int) := of_decide_eq_true (by first | (with_reducible assumption) | assumption)
          obtain ⟨ad573, e573, hx573_0⟩ := Kd.at_int (Kd.R_reads' HO_305.out).2.2 x307_4 p573 q573
          cases e573
          replace p573 := eq_true p573
          replace q573 := eq_true q573
          replace hz526 := blk_cell BK526.out; replace hy526 := blk_frozen BK526.out
          obtain ⟨Ao146, co146, eo146⟩ := Kd.R_slice HO_8.out
          subst eo146
          have p574 : 0 ≤ (x307_4 : Int) := of_decide_eq_true (by first | (with_reducible assumption) | assumption)
          have q574 : x307_4 < (t527.length : Int) := of_decide_eq_true (by first | (with_reducible assumption) | assumption)
          obtain ⟨ad574, e574, hx574_0⟩ := Kd.at_int (Kd.R_reads' HO_8.out).2.2 x307_4 p574 q574
          cases e574
          replace p574 := eq_true p574
          replace q574 := eq_true q574
          try go_wp2_with (first | ((with_reducible refine gate_callee (f := 46) rfl ?_); refine goesL_ (some 324) rfl rfl Try.func46 (by kernel_rfl) rfl #[.int .i64 (wrap64 ((wrap64 ((rd t527 x307_4) * (ji137))) - (rd t535 x307_4)))] rfl (by (try simp only [List.map_toArray, List.map_cons, List.map_nil]); first | done | (simp only [hji137]; rfl) | rfl | (simp only [List.length_drop, List.length_take]; rfl)) ?_; (with_reducible refine (laws_uAbs.calls (wrap64 ((wrap64 ((rd t527 x307_4) * (ji137))) - (rd t535 x307_4))) t575 _ A139.out).mono ?_); rintro e w' ⟨rfl, ⟨nd, rfl⟩⟩; refine ⟨_, rfl, ?_⟩))
          (try (rw [drewN_self wr]; generalize hq_ : World.drewN wr _ = wr; have n0_ : Aside0 (Kd.R (Kd.int .i64) 3 wr w.heap.size (fun k_ => some k_ ≠ (.slice (some ad574) t527.length co146 : Value).ownBlock) (.slice (some ad573) t535.length co132) t535) := ⟨by rw [← hq_]; exact (xR HO_305.out)⟩; have n1_ : Aside0 (Kd.R (Kd.int .i64) 3 wr w.heap.size (fun k_ => some k_ ≠ (.slice (some ad573) t535.length co132 : Value).ownBlock) (.slice (some ad574) t527.length co146) t527) := ⟨by rw [← hq_]; exact (xR HO_8.out)⟩; have n2_ : Aside0 (wr.heap[gb526]? = some (.cells #[.int .i64 t517, .int .i64 t518, .int .i64 t519, .int .i64 t520, .bool t521] 62 (0, 0))) := ⟨by rw [← hq_]; exact (xK BK526.out)⟩; have n3_ : Aside0 (Below w.heap.size w wr) := ⟨by rw [← hq_]; exact (xB1 GE526.out HB.out)⟩; clear HO_305 HO_8 BK526 HB hq_; have HO_305 := n0_; have HO_8 := n1_; have BK526 := n2_; have HB := n3_; clear n0_ n1_ n2_ n3_))
          replace HO_8 := xA (Kd.R_drew HO_8.out)
          replace HO_305 := xA (Kd.R_drew HO_305.out)
          replace BK526 := xA (blk_drew BK526.out)
          replace HB := xA (below_drew1 HB.out)
          refine start_ (n := 21) (S := fun w' => True) (ds := []) x14a89 (by kernel_rfl) rfl rfl trivial (fun hHeld => ?_); refine with_tabW laws_FnFirstRuns.tab41 laws_FnFirstRuns.bits41 (fun HT_ HW_ => ?_)
          generalize wr.drew = w147 at HO_8 HO_305 BK526 HB hHeld ⊢
          refine xP 0 325 x14a90 ?_
          refine xP 1 326 x14a91 ?_
          refine xP 2 327 x14a92 ?_
          refine xP 3 328 x14a93 ?_
          refine xP 4 329 x14a94 ?_
          refine xP 5 330 x14a95 ?_
          refine xP 6 331 x14a96 ?_
          refine xP 7 332 x14a97 ?_
          refine xP 8 333 x14a98 ?_
          refine xP 9 334 x14a99 ?_
          refine xP 10 335 x14a100 ?_
          refine xP 11 336 x14a101 ?_
          refine xP 12 337 x14a102 ?_
          refine xP 13 338 x14a103 ?_
          refine xP 14 339 x14a104 ?_
          refine xP 15 340 x14a105 ?_
          refine xP 16 341 x14a106 ?_
          refine xP 17 342 x14a107 ?_
          refine xP 18 343 x14a108 ?_
          refine xP 19 344 x14a109 ?_
          refine xP 20 345 x14a110 ?_
          refine xDn ?_
          try go_wp2
          go_roundg k4
          case measure => have := HJ15.out; have := HJ100.out; have := HJ126.out; have := HK4.out; omega
          case rel => exact ⟨(ji137), (wrap64 (x307_4 + 1)), (by first | rfl | (simp; done) | (simp only [← hji137] <;> (first | rfl | simp)) | (simp [*]; done)), xs, H', ⟨by have := HJ15.out; have := HJ100.out; have := HJ126.out; have := HK4.out; omega⟩, ⟨xR HO_8.out⟩, ⟨xR HO_305.out⟩, ⟨xK BK526.out⟩, ⟨xB1 GE526.out HB.out⟩⟩
       case rest => as_aux_lemma =>
        clear HC130
        obtain ⟨kq, HA, HJ129, BK526, HB⟩ := hcut
        cases kq with
        | zero => exact absurd HA.out (by simp [laws_FnFirstRuns.j6])
        | succ kj129 =>
         have H := HA.out
         clear HA
         simp only [laws_FnFirstRuns.j6] at H
         replace H := Option.bind_eq_some_iff.mp H
         obtain ⟨⟨t576, t577, t578, t579, t580, t581, t582⟩, A1510, H⟩ := H
         (try dsimp only at H)
         have A151 := xA A1510
         clear A1510
         replace H := Option.bind_eq_some_iff.mp H
         obtain ⟨⟨t584, t587⟩, A1520, H⟩ := H
         (try dsimp only at H)
         have A152 := xA A1520
         clear A1520
         replace H := Option.bind_eq_some_iff.mp H
         obtain ⟨⟨t588, t591⟩, A1530, H⟩ := H
         (try dsimp only at H)
         have A153 := xA A1530
         clear A1530
         replace H := Option.bind_eq_some_iff.mp H
         obtain ⟨⟨t592, t593, t594, t595, t596, t597, t598⟩, A1540, H⟩ := H
         (try dsimp only at H)
         have A154 := xA A1540
         clear A1540
         replace H := Option.bind_eq_some_iff.mp H
         obtain ⟨⟨t600, t601⟩, A1550, H⟩ := H
         (try dsimp only at H)
         have A155 := xA A1550
         clear A1550
         replace H := Option.bind_eq_some_iff.mp H
         obtain ⟨⟨t602, t603⟩, A1560, H⟩ := H
         (try dsimp only at H)
         have A156 := xA A1560
         clear A1560
         have HC157 := xA H
         clear H
         go_upto_region 50 with (first | (refine xq rfl ?_; first | (refine xG (some 349) Try.func100 #[.slice A1 l1.length c1] ?_; (with_reducible refine (spec_DrawImpulseOf.calls _ _ l1 t576 t577 t578 t579 t580 t581 t582 _ ?side1 ?side2 A151.out).mono ?_); (case side1 => exact xC (Kd.C_below HR1.out HB.out)); (case side2 => exact HC1.out); rintro e w158 ⟨rfl, hb⟩; refine ⟨_, rfl, ?_⟩; replace BK526 := xkb BK526 hb; replace HB := xA (below_step (xB1 GE526.out HB.out) hb); (try clear hb)) | (refine xG (some 357) Try.func101 #[.agg #[.int .i64 t576, .int .i64 t577, .int .i64 t578, .int .i64 t579, .bool t580], .int .i64 t581, .int .i64 t582] ?_; (with_reducible refine (impl_ImpulseOf.calls kj129 t576 t577 t578 t579 t580 t581 t582 t584 t587 _ A152.out).mono ?_); rintro e w162 ⟨v585, rfl, ho0, hb⟩; refine ⟨_, rfl, ?_⟩; have HO586 := xA (Kd.R_lower ho0 (below_size (xB2 GE526.out GE583.out HB.out))); replace BK526 := xkb BK526 hb; replace BK583 := xkb BK583 hb; replace HB := xA (below_step (xB2 GE526.out GE583.out HB.out) hb); (try clear hb); (try clear ho0); obtain ⟨hcz163_0, hcz163_1, hcz163_2, hcz163_3, hcz163_4, hfz163_0, hfz163_1, hfz163_2, hfz163_3, hfz163_4⟩ := xZ5 BK583.out) | (refine xG (some 364) Try.func102 #[.agg #[.int .i64 t576, .int .i64 t577, .int .i64 t578, .int .i64 t579, .bool t580], .int .i64 t581, .int .i64 t582] ?_; (with_reducible refine (spec_ImpulseOf.calls kj129 t576 t577 t578 t579 t580 t581 t582 t588 t591 _ A153.out).mono ?_); rintro e w164 ⟨v589, rfl, ho0, hb⟩; refine ⟨_, rfl, ?_⟩; have HO590 := xA (Kd.R_lower (Kd.R_new' ho0 (Kd.R_lt (xR HO586.out))) (below_size (xB2 GE526.out GE583.out HB.out))); replace HO586 := xA (Kd.R_elder' (xR HO586.out) (Kd.R_base ho0) hb); replace BK526 := xkb BK526 hb; replace BK583 := xkb BK583 hb; replace HB := xA (below_step (xB2 GE526.out GE583.out HB.out) hb); (try clear hb); (try clear ho0)) | (refine xG (some 369) Try.func103 #[.slice A1 l1.length c1] ?_; (with_reducible refine (spec_DrawFirstStep.calls kj129 _ _ l1 t592 t593 t594 t595 t596 t597 t598 _ ?side1 ?side2 A154.out).mono ?_); (case side1 => exact xC (Kd.C_below HR1.out HB.out)); (case side2 => exact HC1.out); rintro e w165 ⟨rfl, hb⟩; refine ⟨_, rfl, ?_⟩; replace HO586 := xA (Kd.R_below (xR HO586.out) hb); replace HO590 := xA (Kd.R_below (xR HO590.out) hb); replace BK526 := xkb BK526 hb; replace BK583 := xkb BK583 hb; replace HB := xA (below_step (xB2 GE526.out GE583.out HB.out) hb); (try clear hb)) | (refine xG (some 377) Try.func99 #[.agg #[.int .i64 t592, .int .i64 t593, .int .i64 t594, .int .i64 t595, .bool t596], .int .i64 t597, .int .i64 t598] ?_; (with_reducible refine (impl_FirstStep.calls kj129 t592 t593 t594 t595 t596 t597 t598 t600 t601 _ A155.out).mono ?_); rintro e w170 ⟨rfl, hb⟩; refine ⟨_, rfl, ?_⟩; replace HO586 := xA (Kd.R_below (xR HO586.out) hb); replace HO590 := xA (Kd.R_below (xR HO590.out) hb); replace BK526 := xkb BK526 hb; replace BK583 := xkb BK583 hb; replace BK599 := xkb BK599 hb; replace HB := xA (below_step (xB3 GE526.out GE583.out GE599.out HB.out) hb); (try clear hb); obtain ⟨hcz171_0, hcz171_1, hcz171_2, hcz171_3, hcz171_4, hfz171_0, hfz171_1, hfz171_2, hfz171_3, hfz171_4⟩ := xZ5 BK599.out) | (refine xG (some 384) Try.func104 #[.agg #[.int .i64 t592, .int .i64 t593, .int .i64 t594, .int .i64 t595, .bool t596], .int .i64 t597, .int .i64 t598] ?_; (with_reducible refine (spec_FirstStep.calls kj129 t592 t593 t594 t595 t596 t597 t598 t602 t603 _ A156.out).mono ?_); rintro e w172 ⟨rfl, hb⟩; refine ⟨_, rfl, ?_⟩; replace HO586 := xA (Kd.R_below (xR HO586.out) hb); replace HO590 := xA (Kd.R_below (xR HO590.out) hb); replace BK526 := xkb BK526 hb; replace BK583 := xkb BK583 hb; replace BK599 := xkb BK599 hb; replace HB := xA (below_step (xB3 GE526.out GE583.out GE599.out HB.out) hb); (try clear hb))) | ((with_reducible refine gate_dst (N := 44) rfl ?_); (try (refine gate_guard (by rfl) ?_; dsimp only)); refine box_event ?hg (N := 44) ?hd (cs := #[.int .i64 0, .int .i64 0, .int .i64 0, .int .i64 0, .bool false]) (t := 62) ?hr ?_; (case hd => rfl); (case hg => rfl); (case hr => first | (go_simp; done) | (go_simp; rfl)); intro gb583 hg w159 hbox hb; have BK583 := xA (hbox); have GW583 := xgw hg (below_size (xB1 GE526.out HB.out)); have GE583 := GW583; replace HB := xA (below_step (xB1 GE526.out HB.out) hb); have NB526_583 := xnl hg BK526; have NB583_526 := xng hg BK526; replace BK526 := xkb BK526 hb; clear hb hbox hg; have hnb160 := NB583_526.out; have hnc160 := NB526_583.out; obtain ⟨hcz161_0, hcz161_1, hcz161_2, hcz161_3, hcz161_4, hfz161_0, hfz161_1, hfz161_2, hfz161_3, hfz161_4⟩ := xZ5 BK583.out) | ((with_reducible refine gate_store (t := 62) (p := 44) rfl ?_); refine xS5 (ty := 62) (v0 := .int .i64 t576) (v1 := .int .i64 t577) (v2 := .int .i64 t578) (v3 := .int .i64 t579) (v4 := .bool t580) 44 350 (xK BK583.out) ?_; intro wS583 hbk hk hB; replace HB := xA (hB (xB HB.out) GE583.out); replace BK526 := xkk hk BK526 NB526_583; replace BK583 := xA hbk; clear hbk hk hB; replace hz583 := blk_cell BK583.out; replace hy583 := blk_frozen BK583.out; replace hz526 := blk_cell BK526.out; replace hy526 := blk_frozen BK526.out) | ((with_reducible refine gate_dst (N := 51) rfl ?_); (try (refine gate_guard (by rfl) ?_; dsimp only)); refine box_event ?hg (N := 51) ?hd (cs := #[.int .i64 0, .int .i64 0, .int .i64 0, .int .i64 0, .bool false]) (t := 62) ?hr ?_; (case hd => rfl); (case hg => rfl); (case hr => first | (go_simp; done) | (go_simp; rfl)); intro gb599 hg w166 hbox hb; replace HO586 := xA (Kd.R_below (xR HO586.out) hb); replace HO590 := xA (Kd.R_below (xR HO590.out) hb); have BK599 := xA (hbox); have GW599 := xgw hg (below_size (xB2 GE526.out GE583.out HB.out)); have GE599 := GW599; replace HB := xA (below_step (xB2 GE526.out GE583.out HB.out) hb); have NB526_599 := xnl hg BK526; have NB599_526 := xng hg BK526; replace BK526 := xkb BK526 hb; have NB583_599 := xnl hg BK583; have NB599_583 := xng hg BK583; replace BK583 := xkb BK583 hb; clear hb hbox hg; have hnb167 := NB599_526.out; have hnc167 := NB526_599.out; have hnb168 := NB599_583.out; have hnc168 := NB583_599.out; obtain ⟨hcz169_0, hcz169_1, hcz169_2, hcz169_3, hcz169_4, hfz169_0, hfz169_1, hfz169_2, hfz169_3, hfz169_4⟩ := xZ5 BK599.out) | ((with_reducible refine gate_store (t := 62) (p := 51) rfl ?_); refine xS5 (ty := 62) (v0 := .int .i64 t592) (v1 := .int .i64 t593) (v2 := .int .i64 t594) (v3 := .int .i64 t595) (v4 := .bool t596) 51 370 (xK BK599.out) ?_; intro wS599 hbk hk hB; replace HO586 := xA (Kd.R_mono (Kd.R_keep (Kd.R_types (xR HO586.out) (xK BK599.out) (by decide)) hk (fun _ h => h.2)) (fun _ h => h.1)); replace HO590 := xA (Kd.R_mono (Kd.R_keep (Kd.R_types (xR HO590.out) (xK BK599.out) (by decide)) hk (fun _ h => h.2)) (fun _ h => h.1)); replace HB := xA (hB (xB HB.out) GE599.out); replace BK526 := xkk hk BK526 NB526_599; replace BK583 := xkk hk BK583 NB583_599; replace BK599 := xA hbk; clear hbk hk hB; replace hz599 := blk_cell BK599.out; replace hy599 := blk_frozen BK599.out; replace hz526 := blk_cell BK526.out; replace hy526 := blk_frozen BK526.out; replace hz583 := blk_cell BK583.out; replace hy583 := blk_frozen BK583.out))
         (try simp only [Act.put, List.setIfInBounds_toArray, List.set_cons_zero, List.set_cons_succ])
         go_cut [405] from 308 to 386 (fun v405 wc => ∃ (kq : Nat) (x405_156 : Bool), v405 = .bool x405_156 ∧ Aside0 (laws_FnFirstRuns.j7 kq t582 t584 t587 x405_156 t576 t577 t578 t579 t580 = some r) ∧ Aside0 (kq ≤ kj129) ∧ Aside0 (Kd.R (Kd.int .i64) 3 wc w.heap.size (fun _ => True) v585 t584) ∧ Aside0 (wc.heap[gb526]? = some (.cells #[.int .i64 t517, .int .i64 t518, .int .i64 t519, .int .i64 t520, .bool t521] 62 (0, 0))) ∧ Aside0 (wc.heap[gb583]? = some (.cells #[.int .i64 t576, .int .i64 t577, .int .i64 t578, .int .i64 t579, .bool t580] 62 (0, 0))) ∧ Aside0 (wc.heap[gb599]? = some (.cells #[.int .i64 t592, .int .i64 t593, .int .i64 t594, .int .i64 t595, .bool t596] 62 (0, 0))) ∧ Aside0 (Below w.heap.size w wc))
         case first => as_aux_lemma =>
          have H := HC157.out
          clear HC157
          by_cases c173 : (t587 != t591) = true
          ·rw [if_pos c173] at H; exact absurd H (by have hr_ := HRT.out; cases kj129 <;> simp [laws_FnFirstRuns.j7, hr_])
          as_aux_lemma =>
           rw [if_neg c173] at H
           have c173b0 : (t587 != t591) = false := by simpa using c173
           (try (have c173b1 : decide (t587 = t591) = true := by simpa using c173))
           (try (have c173b2 : (t587 == t591) = true := by simpa using c173))
           clear c173
           (first | rw [c173b0] | (simp only [i64_w, i32_w]; rw [c173b0]) | skip)
           obtain ⟨t604, A174, H⟩ := xO H
           (try dsimp only at H)
           by_cases c175 : t604 = true
           rotate_left
           ·replace c175 := Bool.eq_false_iff.mpr c175; subst c175; exact absurd H (by have hr_ := HRT.out; cases kj129 <;> simp [laws_FnFirstRuns.j7, hr_])
           subst c175
           rw [if_pos rfl] at H
           by_cases c176 : (t601 != t603) = true
           ·rw [if_pos c176] at H; exact absurd H (by have hr_ := HRT.out; cases kj129 <;> simp [laws_FnFirstRuns.j7, hr_])
           rw [if_neg c176] at H
           have c176b0 : (t601 != t603) = false := by simpa using c176
           (try (have c176b1 : decide (t601 = t603) = true := by simpa using c176))
           (try (have c176b2 : (t601 == t603) = true := by simpa using c176))
           clear c176
           have H' := xA H
           clear H
           obtain ⟨Ao177, co177, eo177⟩ := Kd.R_slice HO586.out
           subst eo177
           obtain ⟨Ao178, co178, eo178⟩ := Kd.R_slice HO590.out
           subst eo178
           go_wp2_with (first | (go_at_call 44; (with_reducible refine (laws_uSame.calls kj129 _ _ t584 _ _ t588 true _ ?side1 ?side2 ?side3 ?side4 A174.out).mono ?_); (case side1 => exact xC ((Kd.R_reads' HO586.out).2.2)); (case side2 => exact (Kd.R_reads' HO586.out).2.1); (case side3 => exact xC ((Kd.R_reads' HO590.out).2.2)); (case side4 => exact (Kd.R_reads' HO590.out).2.1); rintro e w' ⟨rfl, ⟨nd, rfl⟩⟩))
           go_meet
           case rel => exact ⟨_, ((t600 != t602)), xs, H', ⟨by have := HJ15.out; have := HJ100.out; have := HJ126.out; have := HJ129.out; first | omega | exact Nat.le_refl _⟩, ⟨by (with_reducible repeat (first | apply Kd.R_alloc | apply Kd.R_drewN | apply Kd.R_drew)); exact Kd.R_mono HO586.out (fun _ hk => trivial)⟩, ⟨xK BK526.out⟩, ⟨xK BK583.out⟩, ⟨xK BK599.out⟩, ⟨xB3 GE526.out GE583.out GE599.out HB.out⟩⟩
         case rest => as_aux_lemma =>
          clear HC157
          try clear hcz161_0
          try clear hcz161_1
          try clear hcz161_2
          try clear hcz161_3
          try clear hcz161_4
          try clear hcz163_0
          try clear hcz163_1
          try clear hcz163_2
          try clear hcz163_3
          try clear hcz163_4
          try clear hcz169_0
          try clear hcz169_1
          try clear hcz169_2
          try clear hcz169_3
          try clear hcz169_4
          try clear hcz171_0
          try clear hcz171_1
          try clear hcz171_2
          try clear hcz171_3
          try clear hcz171_4
          try clear hfz161_0
          try clear hfz161_1
          try clear hfz161_2
          try clear hfz161_3
          try clear hfz161_4
          try clear hfz163_0
          try clear hfz163_1
          try clear hfz163_2
          try clear hfz163_3
          try clear hfz163_4
          try clear hfz169_0
          try clear hfz169_1
          try clear hfz169_2
          try clear hfz169_3
          try clear hfz169_4
          try clear hfz171_0
          try clear hfz171_1
          try clear hfz171_2
          try clear hfz171_3
          try clear hfz171_4
          obtain ⟨kq, x405_156, rfl, HA, HJ156, HO_47, BK526, BK583, BK599, HB⟩ := hcut
          cases kq with
          | zero => exact absurd HA.out (by simp [laws_FnFirstRuns.j7])
          | succ kj156 =>
           have H := HA.out
           clear HA
           simp only [laws_FnFirstRuns.j7] at H
           by_cases c179 : x405_156 = true
           ·as_aux_lemma =>
             subst c179
             rw [if_pos rfl] at H
             exact absurd ((Option.some.inj H).trans HRT.out) (by decide)
           replace c179 := Bool.eq_false_iff.mpr c179
           subst c179
           rw [if_neg (show ¬ (false = true) by decide)] at H
           have HC180 := xA H
           clear H
           go_upto_region 52 with (fail)
           go_cut [410] from 387 to 405 (fun v410 wc => ∃ (kq : Nat) (x410_179 : Bool), v410 = .bool x410_179 ∧ Aside0 (laws_FnFirstRuns.j8 kq t582 t584 x410_179 t576 t577 t578 t579 t580 = some r) ∧ Aside0 (kq ≤ kj156) ∧ Aside0 (Kd.R (Kd.int .i64) 3 wc w.heap.size (fun _ => True) v585 t584) ∧ Aside0 (wc.heap[gb526]? = some (.cells #[.int .i64 t517, .int .i64 t518, .int .i64 t519, .int .i64 t520, .bool t521] 62 (0, 0))) ∧ Aside0 (wc.heap[gb583]? = some (.cells #[.int .i64 t576, .int .i64 t577, .int .i64 t578, .int .i64 t579, .bool t580] 62 (0, 0))) ∧ Aside0 (wc.heap[gb599]? = some (.cells #[.int .i64 t592, .int .i64 t593, .int .i64 t594, .int .i64 t595, .bool t596] 62 (0, 0))) ∧ Aside0 (Below w.heap.size w wc))
           case first => as_aux_lemma =>
            have H := HC180.out
            clear HC180
            by_cases c181 : t587 = true
            ·as_aux_lemma =>
              subst c181
              rw [if_pos rfl] at H
              have H' := xA H
              clear H
              go_wp2
              go_meet
              case rel => exact ⟨_, (decide (t582 > 0)), xs, H', ⟨by have := HJ15.out; have := HJ100.out; have := HJ126.out; have := HJ129.out; have := HJ156.out; first | omega | exact Nat.le_refl _⟩, ⟨xR HO_47.out⟩, ⟨xK BK526.out⟩, ⟨xK BK583.out⟩, ⟨xK BK599.out⟩, ⟨xB3 GE526.out GE583.out GE599.out HB.out⟩⟩
            as_aux_lemma =>
             replace c181 := Bool.eq_false_iff.mpr c181
             subst c181
             rw [if_neg (show ¬ (false = true) by decide)] at H
             have H' := xA H
             clear H
             go_wp2
             go_meet
             case rel => exact ⟨_, (false), xs, H', ⟨by have := HJ15.out; have := HJ100.out; have := HJ126.out; have := HJ129.out; have := HJ156.out; first | omega | exact Nat.le_refl _⟩, ⟨xR HO_47.out⟩, ⟨xK BK526.out⟩, ⟨xK BK583.out⟩, ⟨xK BK599.out⟩, ⟨xB3 GE526.out GE583.out GE599.out HB.out⟩⟩
           case rest => as_aux_lemma =>
            clear HC180
            try clear c179
            obtain ⟨kq, x410_179, rfl, HA, HJ179, HO_47, BK526, BK583, BK599, HB⟩ := hcut
            cases kq with
            | zero => exact absurd HA.out (by simp [laws_FnFirstRuns.j8])
            | succ kj179 =>
             have H := HA.out
             clear HA
             simp only [laws_FnFirstRuns.j8] at H
             by_cases c182 : x410_179 = true
             rotate_left
             ·as_aux_lemma =>
               replace c182 := Bool.eq_false_iff.mpr c182
               subst c182
               rw [if_neg (show ¬ (false = true) by decide)] at H
               obtain rfl := Option.some.inj H
               go_wp2
               go_ret
               exact ⟨xr, xB3 GE526.out GE583.out GE599.out HB.out⟩

             subst c182
             rw [if_pos rfl] at H
             obtain ⟨ji183, hji183⟩ : ∃ j_ : Int, (wrap64 (t582 - 1)) = j_ := ⟨_, rfl⟩
             (first | rw [hji183] at H | simp only [hji183] at H)
             have hji183w : (IntKind.i64.wrap (t582 - 1)) = ji183 := (i64_w _).trans hji183
             by_cases c184 : 0 ≤ (ji183)
             rotate_left
             ·rw [if_neg c184] at H
              exact absurd H (by simp)
             rw [if_pos c184] at H
             have c184b0 := eq_true c184
             have c184b1 : decide (0 ≤ (ji183)) = true := decide_eq_true c184
             clear c184
             by_cases c185 : (ji183 : Int).toNat ≤ 35184372088832
             rotate_left
             ·rw [if_neg c185] at H
              exact absurd H (by simp)
             rw [if_pos c185] at H
             have c185b0 := eq_true c185
             have c185b1 : decide ((ji183 : Int).toNat ≤ 35184372088832) = true := decide_eq_true c185
             clear c185
             obtain ⟨y605, hy605⟩ : ∃ y_ : List Int, y_ = (List.replicate (ji183 : Int).toNat 0) := ⟨_, rfl⟩
             replace H : (if 0 < (t584.length : Int) then ((impl_RunFirst.f kj179 t576 t577 t578 t579 t580 (rd t584 0) y605).bind fun bt609 => (if (t584.length : Int) = t582 then (if bt609.2 = true then (if 1 ≤ (t584.length : Int) then ((laws_uSame.f kj179 bt609.1 (t584.drop 1)).bind fun t617 => (some t617)) else (none)) else (some false)) else (some false))) else (none)) = some r := by first | (rw [hy605]; with_reducible exact H) | (have H2_ := (Option.bind_some _ _).symm.trans H; rw [hy605]; with_reducible exact H2_) | (have H2_ := (Option.bind_some _ _).symm.trans H; with_reducible exact H2_) | with_reducible exact H | (rw [hy605]; exact H) | exact H
             have Ny605 := xA hy605
             clear hy605
             by_cases c186 : 0 < (t584.length : Int)
             rotate_left
             ·rw [if_neg c186] at H
              exact absurd H (by simp)
             rw [if_pos c186] at H
             have c186b0 : decide (0 < (t584.length : Int)) = true := decide_eq_true c186
             have c186b1 : decide (0 < t584.length) = true := decide_eq_true (by omega)
             clear c186
             replace H := Option.bind_eq_some_iff.mp H
             obtain ⟨⟨t609, t612⟩, A1870, H⟩ := H
             (try dsimp only at H)
             have A187 := xA A1870
             clear A1870
             by_cases c188 : (t584.length : Int) = t582
             rotate_left
             ·rw [if_neg c188] at H
              have c188b0 : ((t584.length : Int) == t582) = false := beq_eq_false_iff_ne.mpr c188
              have c188b1 : ((t584.length : Int) != t582) = true := bne_iff_ne.mpr c188
              exact absurd ((Option.some.inj H).trans HRT.out) (by decide)
             rw [if_pos c188] at H
             have c188b0 : ((t584.length : Int) == t582) = true := beq_iff_eq.mpr c188
             have c188b1 : ((t584.length : Int) != t582) = false := bne_eq_false_iff_eq.mpr c188
             clear c188
             by_cases c189 : t612 = true
             rotate_left
             ·as_aux_lemma =>
               replace c189 := Bool.eq_false_iff.mpr c189
               subst c189
               rw [if_neg (show ¬ (false = true) by decide)] at H
               exact absurd ((Option.some.inj H).trans HRT.out) (by decide)
             subst c189
             rw [if_pos rfl] at H
             by_cases c190 : 1 ≤ (t584.length : Int)
             rotate_left
             ·rw [if_neg c190] at H
              exact absurd H (by simp)
             rw [if_pos c190] at H
             have c190b0 := eq_true c190
             have c190b1 : decide (1 ≤ (t584.length : Int)) = true := decide_eq_true c190
             clear c190
             obtain ⟨y613, hy613⟩ : ∃ y_ : List Int, y_ = (t584.drop 1) := ⟨_, rfl⟩
             replace H : ((laws_uSame.f kj179 t609 y613).bind fun t617 => (some t617)) = some r := by first | (rw [hy613]; with_reducible exact H) | (have H2_ := (Option.bind_some _ _).symm.trans H; rw [hy613]; with_reducible exact H2_) | (have H2_ := (Option.bind_some _ _).symm.trans H; with_reducible exact H2_) | with_reducible exact H | (rw [hy613]; exact H) | exact H
             have Ny613 := xA hy613
             clear hy613
             obtain ⟨t617, A191, H⟩ := xO H
             (try dsimp only at H)
             obtain rfl := Option.some.inj H
             try go_wp2_with (first | ((with_reducible refine gate_dst (N := 413) rfl ?_); (try (refine gate_guard (by rfl) ?_; dsimp only)); refine Kd.R_make (Kd.int .i64) _ 3 rfl (N := 413) rfl 24 _ _ rfl ji183 rfl rfl Try.underlying24 (.int .i64 0) 8 info3 rfl (by decide) (by omega) 0 (ok := fun _ => True) (okp := fun _ => True) rfl (fun _ hk => hk) trivial (of_decide_eq_true (by first | (with_reducible assumption) | assumption)) (Nat.le_trans (Nat.mul_le_mul_right _ (of_decide_eq_true (by first | (with_reducible assumption) | assumption) : ji183.toNat ≤ 35184372088832)) (by omega)) (Below.refl _ _) (Nat.le_refl _) ?_; intro v606 w192 ho193 hb hg_ hnew_; clear hg_ hnew_; (first | rw [← Ny605.out] at ho193 | (simp only [Int.reduceToNat] at ho193; rw [← Ny605.out] at ho193)); have HO607 := xA (Kd.R_lower (Kd.R_new' ho193 (Kd.R_lt (xR HO_47.out))) (below_size (xB3 GE526.out GE583.out GE599.out HB.out))); replace HO_47 := xA (Kd.R_elder' (xR HO_47.out) (Kd.R_base ho193) hb); replace BK526 := xkb BK526 hb; replace BK583 := xkb BK583 hb; replace BK599 := xkb BK599 hb; replace HB := xA (below_step (xB3 GE526.out GE583.out GE599.out HB.out) hb); clear hb ho193))
             replace HO_47 := xA (Kd.R_drew HO_47.out)
             replace HO607 := xA (Kd.R_drew HO607.out)
             replace BK526 := xA (blk_drew BK526.out)
             replace BK583 := xA (blk_drew BK583.out)
             replace BK599 := xA (blk_drew BK599.out)
             replace HB := xA (below_drew1 HB.out)
             obtain ⟨Ao195, co195, eo195⟩ := Kd.R_slice HO_47.out
             (first | subst eo195 | (injection eo195 with f1_ f2_ f3_; have f4_ := f1_.symm; have f5_ := f3_.symm; clear f1_ f2_ f3_; subst f4_; subst f5_))
             have p608 : 0 ≤ (0 : Int) := (by omega)
             have q608 : 0 < (t584.length : Int) := of_decide_eq_true (by first | (with_reducible assumption) | assumption)
             obtain ⟨ad608, e608, hx608_0⟩ := Kd.at_int (Kd.R_reads' HO_47.out).2.2 0 p608 q608
             cases e608
             have qi608 : (0 < t584.length) = True := eq_true (by omega)
             (try rw [show ((0 : Int)).toNat = 0 from rfl] at hx608_0)
             (try rw [Addr.add_zero'] at hx608_0)
             replace p608 := eq_true p608
             replace q608 := eq_true q608
             obtain ⟨Ao196, co196, eo196⟩ := Kd.R_slice HO607.out
             (first | subst eo196 | (injection eo196 with f1_ f2_ f3_; have f4_ := f1_.symm; have f5_ := f3_.symm; clear f1_ f2_ f3_; subst f4_; subst f5_))
             refine start_ (n := 11) (S := fun w' => w'.cell? ⟨gb583, 0, none⟩ = some (.int .i64 t576) ∧ w'.cell? ⟨gb583, 1, none⟩ = some (.int .i64 t577) ∧ w'.cell? ⟨gb583, 2, none⟩ = some (.int .i64 t578) ∧ w'.cell? ⟨gb583, 3, none⟩ = some (.int .i64 t579) ∧ w'.cell? ⟨gb583, 4, none⟩ = some (.bool t580) ∧ w'.cell? ad608 = some (.int .i64 (rd t584 0))) (ds := []) x14a111 (by kernel_rfl) rfl rfl ⟨(blk_cell BK583.out 0).trans rfl, (blk_cell BK583.out 1).trans rfl, (blk_cell BK583.out 2).trans rfl, (blk_cell BK583.out 3).trans rfl, (blk_cell BK583.out 4).trans rfl, hx608_0⟩ (fun hHeld => ?_); refine with_tabW laws_FnFirstRuns.tab54 laws_FnFirstRuns.bits54 (fun HT_ HW_ => ?_)
             generalize w192.drew = w194 at HO_47 HO607 BK526 BK583 BK599 HB hx608_0 hHeld ⊢
             refine xP 1 416 x14a112 ?_
             refine xP 2 417 x14a113 ?_
             refine xP 4 419 x14a114 ?_
             refine xT6 hHeld 0 415 x14a115 ?_
             refine xT6 hHeld 3 418 x14a116 ?_
             refine xU 5 420 x14a117 (fun K hK => ?_)
             refine xY Try.func87 #[.agg #[.int .i64 t576, .int .i64 t577, .int .i64 t578, .int .i64 t579, .bool t580], .int .i64 (rd t584 0), .slice Ao196 y605.length co196] ?_
             with_reducible refine (impl_RunFirst.calls kj179 t576 t577 t578 t579 t580 (rd t584 0) _ _ y605 t609 true _ ?side1 ?side2 A187.out).mono ?_
             (case side1 => exact xC ((Kd.R_reads' HO607.out).2.2))
             (case side2 => exact (Kd.R_reads' HO607.out).2.1)
             rintro e w197 ⟨v610, rfl, ho0, hb⟩
             have HS5_ := (hb.cell (World.block_lt_of_cell? _ _ (hHeld.2.2.2.2.2))).trans (hHeld.2.2.2.2.2)
             refine ⟨_, rfl, ?_⟩
             have HO611 := xA (Kd.R_lower (Kd.R_new' (Kd.R_new' ho0 (Kd.R_lt (xR HO_47.out))) (Kd.R_lt (xR HO607.out))) (below_size (xB3 GE526.out GE583.out GE599.out HB.out)))
             replace HO_47 := xA (Kd.R_elder' (xR HO_47.out) (Kd.R_base ho0) hb)
             replace HO607 := xA (Kd.R_elder' (xR HO607.out) (Kd.R_base ho0) hb)
             replace BK526 := xkb BK526 hb
             replace BK583 := xkb BK583 hb
             replace BK599 := xkb BK599 hb
             replace HB := xA (below_step (xB3 GE526.out GE583.out GE599.out HB.out) hb)
             (try clear hb); (try clear hb2); (try clear hk); (try clear hi)
             (try clear ho0)
             refine hK.out _ _ ⟨(blk_cell BK583.out 0).trans rfl, (blk_cell BK583.out 1).trans rfl, (blk_cell BK583.out 2).trans rfl, (blk_cell BK583.out 3).trans rfl, (blk_cell BK583.out 4).trans rfl, HS5_⟩ (fun hHeld => ?_)
             clear hK K
             refine xN ?_
             refine xP 6 414 x14a118 ?_
             refine xP 7 421 x14a119 ?_
             refine xP 8 422 x14a120 ?_
             refine xP 9 59 x14a121 ?_
             refine xP 10 60 x14a122 ?_
             refine xDn ?_
             have q198 : (1 : Int) ≤ ((t584.length : Int) : Int) := of_decide_eq_true (by first | (with_reducible assumption) | assumption)
             obtain ⟨i0198, hi0198, _, hsz198, _⟩ := info_parts info3
             have hroom198 : t584.length ≤ co195 := (Kd.R_reads' HO_47.out).2.1
             have hC198 : Kd.C (Kd.int .i64) _ (some ad608) t584.length t584 := (Kd.R_reads' HO_47.out).2.2
             have hcut198 := cut_from (P := Try.prog) 24 3 .i64 Try.underlying24 hi0198 1 hsz198 (some ad608) t584.length co195 1 (by omega) q198
             have hr198 := kd_drop (m := (1 : Int).toNat) (c := co195) hC198 (by omega) hroom198
             obtain ⟨A198, hA198⟩ : ∃ A1, A1 = (if co195 = (1 : Int).toNat then (some ad608) else ((some ad608) : Option Addr).map (·.add ((1 : Int).toNat * 1))) := ⟨_, rfl⟩
             obtain ⟨c198, hc198⟩ : ∃ c1, c1 = co195 - (1 : Int).toNat := ⟨_, rfl⟩
             have hy198 : y613.length = t584.length - (1 : Int).toNat := (by rw [Ny613.out, List.length_drop] <;> omega)
             rw [show (t584).drop (1 : Int).toNat = y613 from Ny613.out.symm] at hr198
             replace hr198 : Kd.C (Kd.int .i64) _ A198 y613.length y613 := (by rw [hA198]; exact hr198)
             rw [← hy198, ← hA198, ← hc198] at hcut198
             have HR616 := xA hr198
             have HC616 := xA (show y613.length ≤ c198 from by rw [hy198, hc198]; exact Nat.sub_le_sub_right hroom198 _)
             clear hr198 hC198 hroom198 hi0198 hsz198 hc198
             have KY198 := xA hy198
             have KA198 := xA hA198
             clear hy198 hA198
             have KL198 := xA (show 1 ≤ t584.length from by omega)
             replace q198 := eq_true q198
             obtain ⟨Ao199, co199, eo199⟩ := Kd.R_slice HO611.out
             subst eo199
             try go_wp2_with (first | (go_at_call 44; (with_reducible refine (laws_uSame.calls kj179 _ _ t609 _ _ y613 t617 _ ?side1 ?side2 ?side3 ?side4 A191.out).mono ?_); (case side1 => exact xC ((Kd.R_reads' HO611.out).2.2)); (case side2 => exact (Kd.R_reads' HO611.out).2.1); (case side3 => repeat (first | exact (by repeat (first | (with_reducible exact HR616.out) | (with_reducible refine Kd.C_alloc ?_ _) | (with_reducible refine Kd.C_drewN ?_ _) | (with_reducible refine Kd.C_drew ?_) | exact HR616.out)) | (with_reducible refine Kd.C_alloc ?_ _) | (with_reducible refine Kd.C_drewN ?_ _) | (with_reducible refine Kd.C_drew ?_))); (case side4 => exact HC616.out); rintro e w' ⟨rfl, ⟨nd, rfl⟩⟩))
             go_ret
             exact ⟨by first | rfl | (simp [errW_none, errW_some] <;> rfl) | (simp only [← hji183]; first | rfl | (simp [errW_none, errW_some] <;> rfl)) | (simp [*, errW_none, errW_some] <;> rfl), xB3 GE526.out GE583.out GE599.out HB.out⟩
/-- THE ONE PURE STATEMENT of laws_FnFirstRuns: yours. -/
def laws_FnFirstRuns.Pure : Prop := ∀ (l0 : List Int) (l1 : List Int), l0.length ≤ maxLen → l0.length * 1 ≤ 140737488351232 → (∀ x ∈ l0, (Lit.int .u8 x).wf = true) → l1.length ≤ maxLen → l1.length * 1 ≤ 140737488351232 → (∀ x ∈ l1, (Lit.int .u8 x).wf = true) → ∃ k, laws_FnFirstRuns.f k l0 l1 = some true
theorem laws_FnFirstRuns.walk (P : laws_FnFirstRuns.Pure) (a0 : Option Addr) (len0 cap0 : Nat) (z0 : List Int) (a1 : Option Addr) (len1 cap1 : Nat) (z1 : List Int) (w : World) (w0 : (a0 = none ∧ len0 = 0 ∧ cap0 = 0 ∧ z0 = []) ∨ ∃ x, a0 = some x ∧ len0 ≤ cap0 ∧ cap0 ≤ maxLen ∧ z0.length = cap0 ∧ (∀ i, i < z0.length → w.cell? (x.add i) = some (.int .u8 (z0.getD i 0))) ∧ ∀ n ∈ z0, (Lit.int .u8 n).wf = true) (y0 : len0 * 1 ≤ 140737488351232) (w1 : (a1 = none ∧ len1 = 0 ∧ cap1 = 0 ∧ z1 = []) ∨ ∃ x, a1 = some x ∧ len1 ≤ cap1 ∧ cap1 ≤ maxLen ∧ z1.length = cap1 ∧ (∀ i, i < z1.length → w.cell? (x.add i) = some (.int .u8 (z1.getD i 0))) ∧ ∀ n ∈ z1, (Lit.int .u8 n).wf = true) (y1 : len1 * 1 ≤ 140737488351232) :
  Calls Try.prog 7 #[.slice a0 len0 cap0, .slice a1 len1 cap1] w fun e w' => e = .returned (.bool true) ∧ Below w.heap.size w w' := by
 obtain ⟨l0, rfl, hr0, hm0, hw0, hc0⟩ := ReadsInt.ofRowC w0
 obtain ⟨l1, rfl, hr1, hm1, hw1, hc1⟩ := ReadsInt.ofRowC w1
 obtain ⟨k, h⟩ := P l0 l1 hm0 y0 hw0 hm1 y1 hw1
 refine (laws_FnFirstRuns.calls k _ _ l0 _ _ l1 true w (Kd.C_of_reads (d := (0 : Int)) (h1 := fun _ => rfl) hr0) hc0 (Kd.C_of_reads (d := (0 : Int)) (h1 := fun _ => rfl) hr1) hc1 h rfl).mono ?_
 rintro e w' ⟨rfl, hd⟩
 exact ⟨rfl, hd⟩

end Go.Proofs.Ytjplcongellcmaa.PFnFirstRuns
