/- What each Go function that the statement FnPairsRun reaches answers, proved call by call. No condition beyond those that the theorems print. (Written by wip/tools/xprint.py of this repo, over the kit's print.) -/
import Derived.Test.YtjplcongellcmaaPFnPairsRunx0
import Derived.Test.YtjplcongellcmaaPFnPairsRunx1
import Derived.Test.YtjplcongellcmaaPFnPairsRunx2
import Derived.Test.YtjplcongellcmaaPFnPairsRunx5
import Derived.Test.YtjplcongellcmaaPFnPairsRunx6
import Derived.Test.YtjplcongellcmaaPFnPairsRunx8
import Derived.Test.YtjplcongellcmaaPFnPairsRunx9
import Derived.Test.YtjplcongellcmaaPFnPairsRunx10
import Derived.Test.YtjplcongellcmaaPFnPairsRunx12
import Derived.Test.YtjplcongellcmaaPFnPairsRunx13
import Derived.Test.YtjplcongellcmaaPFnPairsRunx15
import Derived.Test.YtjplcongellcmaaPFnPairsRunx17
import Derived.Test.YtjplcongellcmaaPFnPairsRunx18
import Derived.Test.YtjplcongellcmaaPFnPairsRunx19
import Derived.Test.YtjplcongellcmaaPFnPairsRunx20
namespace Go.Proofs.Ytjplcongellcmaa.PFnPairsRun
open Go.RowKit Go.Proofs.YtjplcongellcmaaW.PrintWords Go.Proofs.YtjplcongellcmaaW.PrintLast Go.Proofs.YtjplcongellcmaaW.PrintMore
attribute [local go_sem] max2_int min2_int max_two min_two max_three min_three max_four min_four   -- for this text's walks alone
set_option linter.unusedVariables false
set_option linter.unusedSimpArgs false

/-- A new block is none of an older row's. -/
theorem r_newB {α : Type} {d : Kd α} {e g : Nat} {ok : Nat → Prop} {w w1 : World} {v : Value} {xs : List α} {o : Obj} (h : d.R e w1 w.heap.size ok v xs) (hb : w.heap[g]? = some o) : d.R e w1 w.heap.size (fun k => ok k ∧ k ≠ g) v xs := Kd.R_mono (Kd.R_bound h) (fun k hk => ⟨hk.1, by have := blk_lt hb; have := hk.2.1; omega⟩)

set_option maxHeartbeats 200000000 in
set_option maxRecDepth 100000 in
theorem laws_FnPairsRun.calls (k : Nat) (A0 : Option Addr) (c0 : Nat) (l0 : List Int) (A1 : Option Addr) (c1 : Nat) (l1 : List Int) (r : Bool) (w : World) (hr0 : Kd.C (Kd.int .u8) w A0 l0.length l0) (hc0 : l0.length ≤ c0) (hr1 : Kd.C (Kd.int .u8) w A1 l1.length l1) (hc1 : l1.length ≤ c1) (h : laws_FnPairsRun.f k l0 l1 = some r) (hr_ : r = true) :
  Calls Try.prog 10 #[.slice A0 l0.length c0, .slice A1 l1.length c1] w fun e w' => e = .returned (.bool r) ∧ Below w.heap.size w w' := by
 have HRT := xA hr_
 clear hr_
 have hu91 := Try.underlying91
 have hu62 := Try.underlying62
 have HR0 := xA hr0
 have HC0 := xA hc0
 clear hr0 hc0
 have HR1 := xA hr1
 have HC1 := xA hc1
 clear hr1 hc1
 have HB := xA (Below.refl w.heap.size w)
 have H : ((laws_big.f l0 l1).bind fun t604 => (if t604 = true then (some true) else ((spec_DrawExactSecond.f k l0).bind fun bt605 => ((impl_RunSecond.f k bt605.1 bt605.2.1 bt605.2.2.1 bt605.2.2.2.1 bt605.2.2.2.2.1 bt605.2.2.2.2.2.1 bt605.2.2.2.2.2.2.1 bt605.2.2.2.2.2.2.2.1 bt605.2.2.2.2.2.2.2.2).bind fun bt617 => ((spec_RunSecond.f k bt605.1 bt605.2.1 bt605.2.2.1 bt605.2.2.2.1 bt605.2.2.2.2.1 bt605.2.2.2.2.2.1 bt605.2.2.2.2.2.2.1 bt605.2.2.2.2.2.2.2.1 bt605.2.2.2.2.2.2.2.2).bind fun bt621 => ((impl_ExactSecond.f k bt605.1 bt605.2.1 bt605.2.2.1 bt605.2.2.2.1 bt605.2.2.2.2.1 bt605.2.2.2.2.2.1 bt605.2.2.2.2.2.2.1 bt605.2.2.2.2.2.2.2.1 bt605.2.2.2.2.2.2.2.2).bind fun bt625 => ((spec_ExactSecond.f k bt605.1 bt605.2.1 bt605.2.2.1 bt605.2.2.2.1 bt605.2.2.2.2.1 bt605.2.2.2.2.2.1 bt605.2.2.2.2.2.2.1 bt605.2.2.2.2.2.2.2.1 bt605.2.2.2.2.2.2.2.2).bind fun bt629 => ((impl_CountPairFits.f k bt605.1 bt605.2.1 bt605.2.2.1 bt605.2.2.2.1 bt605.2.2.2.2.1 bt605.2.2.2.2.2.1 bt605.2.2.2.2.2.2.1 bt605.2.2.2.2.2.2.2.1 bt605.2.2.2.2.2.2.2.2).bind fun bt633 => ((spec_CountPairFits.f k bt605.1 bt605.2.1 bt605.2.2.1 bt605.2.2.2.1 bt605.2.2.2.2.1 bt605.2.2.2.2.2.1 bt605.2.2.2.2.2.2.1 bt605.2.2.2.2.2.2.2.1 bt605.2.2.2.2.2.2.2.2).bind fun bt635 => (if (bt617.2 != bt621.2) = true then (laws_FnPairsRun.j0 k l1 bt605.2.2.2.2.2.2.1 bt605.2.2.2.2.2.2.2.1 bt605.2.2.2.2.2.2.2.2 bt617.1 bt617.2 bt625.1 bt625.2 bt633.1 true bt605.1 bt605.2.1 bt605.2.2.1 bt605.2.2.2.1 bt605.2.2.2.2.1 bt605.2.2.2.2.2.1) else ((laws_uSame.f k bt617.1 bt621.1).bind fun t637 => (if t637 = true then (if (bt625.2 != bt629.2) = true then (laws_FnPairsRun.j0 k l1 bt605.2.2.2.2.2.2.1 bt605.2.2.2.2.2.2.2.1 bt605.2.2.2.2.2.2.2.2 bt617.1 bt617.2 bt625.1 bt625.2 bt633.1 true bt605.1 bt605.2.1 bt605.2.2.1 bt605.2.2.2.1 bt605.2.2.2.2.1 bt605.2.2.2.2.2.1) else ((laws_uSame.f k bt625.1 bt629.1).bind fun t638 => (if t638 = true then (if (bt633.2 != bt635.2) = true then (laws_FnPairsRun.j0 k l1 bt605.2.2.2.2.2.2.1 bt605.2.2.2.2.2.2.2.1 bt605.2.2.2.2.2.2.2.2 bt617.1 bt617.2 bt625.1 bt625.2 bt633.1 true bt605.1 bt605.2.1 bt605.2.2.1 bt605.2.2.2.1 bt605.2.2.2.2.1 bt605.2.2.2.2.2.1) else (if bt633.1 = bt635.1 then (if (bt633.2 != bt617.2) = true then (laws_FnPairsRun.j0 k l1 bt605.2.2.2.2.2.2.1 bt605.2.2.2.2.2.2.2.1 bt605.2.2.2.2.2.2.2.2 bt617.1 bt617.2 bt625.1 bt625.2 bt633.1 true bt605.1 bt605.2.1 bt605.2.2.1 bt605.2.2.2.1 bt605.2.2.2.2.1 bt605.2.2.2.2.2.1) else (if bt625.2 = true then (laws_FnPairsRun.j0 k l1 bt605.2.2.2.2.2.2.1 bt605.2.2.2.2.2.2.2.1 bt605.2.2.2.2.2.2.2.2 bt617.1 bt617.2 bt625.1 bt625.2 bt633.1 (!bt617.2) bt605.1 bt605.2.1 bt605.2.2.1 bt605.2.2.2.1 bt605.2.2.2.2.1 bt605.2.2.2.2.2.1) else (laws_FnPairsRun.j0 k l1 bt605.2.2.2.2.2.2.1 bt605.2.2.2.2.2.2.2.1 bt605.2.2.2.2.2.2.2.2 bt617.1 bt617.2 bt625.1 bt625.2 bt633.1 false bt605.1 bt605.2.1 bt605.2.2.1 bt605.2.2.2.1 bt605.2.2.2.2.1 bt605.2.2.2.2.2.1))) else (laws_FnPairsRun.j0 k l1 bt605.2.2.2.2.2.2.1 bt605.2.2.2.2.2.2.2.1 bt605.2.2.2.2.2.2.2.2 bt617.1 bt617.2 bt625.1 bt625.2 bt633.1 true bt605.1 bt605.2.1 bt605.2.2.1 bt605.2.2.2.1 bt605.2.2.2.2.1 bt605.2.2.2.2.2.1))) else (laws_FnPairsRun.j0 k l1 bt605.2.2.2.2.2.2.1 bt605.2.2.2.2.2.2.2.1 bt605.2.2.2.2.2.2.2.2 bt617.1 bt617.2 bt625.1 bt625.2 bt633.1 true bt605.1 bt605.2.1 bt605.2.2.1 bt605.2.2.2.1 bt605.2.2.2.2.1 bt605.2.2.2.2.2.1)))) else (laws_FnPairsRun.j0 k l1 bt605.2.2.2.2.2.2.1 bt605.2.2.2.2.2.2.2.1 bt605.2.2.2.2.2.2.2.2 bt617.1 bt617.2 bt625.1 bt625.2 bt633.1 true bt605.1 bt605.2.1 bt605.2.2.1 bt605.2.2.2.1 bt605.2.2.2.2.1 bt605.2.2.2.2.2.1))))))))))))) = some r := h
 clear h
 obtain ⟨t604, A3, H⟩ := xO H
 (try dsimp only at H)
 by_cases c4 : t604 = true
 ·as_aux_lemma =>
   subst c4
   rw [if_pos rfl] at H
   obtain rfl := Option.some.inj H
   go_enter Try.func10, Try.ntmps10
   go_wp2_with (first | (refine xG (some 66) Try.func13 #[.slice A0 l0.length c0, .slice A1 l1.length c1] ?_; (with_reducible refine (laws_big.calls _ _ l0 _ _ l1 true _ ?side1 ?side2 ?side3 ?side4 A3.out).mono ?_); (case side1 => exact xC HR0.out); (case side2 => exact HC0.out); (case side3 => exact xC HR1.out); (case side4 => exact HC1.out); rintro e w' ⟨rfl, ⟨nd, rfl⟩⟩; refine ⟨_, rfl, ?_⟩))
   go_ret
   exact ⟨xr, xB HB.out⟩
 replace c4 := Bool.eq_false_iff.mpr c4
 subst c4
 rw [if_neg (show ¬ (false = true) by decide)] at H
 replace H := Option.bind_eq_some_iff.mp H
 obtain ⟨⟨t605, t606, t607, t608, t609, t610, t611, t612, t613⟩, A50, H⟩ := H
 (try dsimp only at H)
 have A5 := xA A50
 clear A50
 replace H := Option.bind_eq_some_iff.mp H
 obtain ⟨⟨t617, t620⟩, A60, H⟩ := H
 (try dsimp only at H)
 have A6 := xA A60
 clear A60
 replace H := Option.bind_eq_some_iff.mp H
 obtain ⟨⟨t621, t624⟩, A70, H⟩ := H
 (try dsimp only at H)
 have A7 := xA A70
 clear A70
 replace H := Option.bind_eq_some_iff.mp H
 obtain ⟨⟨t625, t628⟩, A80, H⟩ := H
 (try dsimp only at H)
 have A8 := xA A80
 clear A80
 replace H := Option.bind_eq_some_iff.mp H
 obtain ⟨⟨t629, t632⟩, A90, H⟩ := H
 (try dsimp only at H)
 have A9 := xA A90
 clear A90
 replace H := Option.bind_eq_some_iff.mp H
 obtain ⟨⟨t633, t634⟩, A100, H⟩ := H
 (try dsimp only at H)
 have A10 := xA A100
 clear A100
 replace H := Option.bind_eq_some_iff.mp H
 obtain ⟨⟨t635, t636⟩, A110, H⟩ := H
 (try dsimp only at H)
 have A11 := xA A110
 clear A110
 have HC12 := xA H
 clear H
 go_enter Try.func10, Try.ntmps10
 go_upto_region 10 with (first | (refine xq rfl ?_; first | (refine xG (some 66) Try.func13 #[.slice A0 l0.length c0, .slice A1 l1.length c1] ?_; (with_reducible refine (laws_big.calls _ _ l0 _ _ l1 false _ ?side1 ?side2 ?side3 ?side4 A3.out).mono ?_); (case side1 => exact xC HR0.out); (case side2 => exact HC0.out); (case side3 => exact xC HR1.out); (case side4 => exact HC1.out); rintro e w' ⟨rfl, ⟨nd, rfl⟩⟩; refine ⟨_, rfl, ?_⟩) | (refine xG (some 69) Try.func137 #[.slice A0 l0.length c0] ?_; (with_reducible refine (spec_DrawExactSecond.calls k _ _ l0 t605 t606 t607 t608 t609 t610 t611 t612 t613 _ ?side1 ?side2 A5.out).mono ?_); (case side1 => exact xC HR0.out); (case side2 => exact HC0.out); rintro e w13 ⟨v614, rfl, ho0, hb⟩; refine ⟨_, rfl, ?_⟩; have HO615 := xA (Kd.R_lower ho0 (below_size (xB HB.out))); replace HB := xA (below_step (xB HB.out) hb); (try clear hb); (try clear ho0)) | (refine xG (some 79) Try.func138 #[.agg #[.int .i64 t605, .int .i64 t606, .int .i64 t607, .int .i64 t608, .int .i64 t609, .bool t610], .int .i64 t611, .int .i64 t612, .slice Ao16 t613.length co16] ?_; (with_reducible refine (impl_RunSecond.calls k t605 t606 t607 t608 t609 t610 t611 t612 _ _ t613 t617 t620 _ ?side1 ?side2 A6.out).mono ?_); (case side1 => refine (Kd.R_reads' (e := 3) (base := w.heap.size) (ok := fun k_ => True) (n := t613.length) (c := co16) ?_).2.2; exact (xR HO615.out)); (case side2 => exact (Kd.R_reads' HO615.out).2.1); rintro e w17 ⟨v618, rfl, ho0, hb⟩; refine ⟨_, rfl, ?_⟩; have HO619 := xA (Kd.R_lower (Kd.R_new' ho0 (Kd.R_lt (xR HO615.out))) (below_size (xB1 GE616.out HB.out))); replace HO615 := xA (Kd.R_elder' (xR HO615.out) (Kd.R_base ho0) hb); replace BK616 := xkb BK616 hb; replace HB := xA (below_step (xB1 GE616.out HB.out) hb); (try clear hb); (try clear ho0); obtain ⟨hcz18_0, hcz18_1, hcz18_2, hcz18_3, hcz18_4, hcz18_5, hfz18_0, hfz18_1, hfz18_2, hfz18_3, hfz18_4, hfz18_5⟩ := xZ6 BK616.out) | (refine xG (some 87) Try.func139 #[.agg #[.int .i64 t605, .int .i64 t606, .int .i64 t607, .int .i64 t608, .int .i64 t609, .bool t610], .int .i64 t611, .int .i64 t612, .slice Ao16 t613.length co16] ?_; (with_reducible refine (spec_RunSecond.calls k t605 t606 t607 t608 t609 t610 t611 t612 _ _ t613 t621 t624 _ ?side1 ?side2 A7.out).mono ?_); (case side1 => exact xC ((Kd.R_reads' HO615.out).2.2)); (case side2 => exact (Kd.R_reads' HO615.out).2.1); rintro e w19 ⟨v622, rfl, ho0, hb⟩; refine ⟨_, rfl, ?_⟩; have HO623 := xA (Kd.R_lower (Kd.R_new' (Kd.R_new' ho0 (Kd.R_lt (xR HO615.out))) (Kd.R_lt (xR HO619.out))) (below_size (xB1 GE616.out HB.out))); replace HO615 := xA (Kd.R_elder' (xR HO615.out) (Kd.R_base ho0) hb); replace HO619 := xA (Kd.R_elder' (xR HO619.out) (Kd.R_base ho0) hb); replace BK616 := xkb BK616 hb; replace HB := xA (below_step (xB1 GE616.out HB.out) hb); (try clear hb); (try clear ho0); obtain ⟨hcz20_0, hcz20_1, hcz20_2, hcz20_3, hcz20_4, hcz20_5, hfz20_0, hfz20_1, hfz20_2, hfz20_3, hfz20_4, hfz20_5⟩ := xZ6 BK616.out) | (refine xG (some 95) Try.func140 #[.agg #[.int .i64 t605, .int .i64 t606, .int .i64 t607, .int .i64 t608, .int .i64 t609, .bool t610], .int .i64 t611, .int .i64 t612, .slice Ao16 t613.length co16] ?_; (with_reducible refine (impl_ExactSecond.calls k t605 t606 t607 t608 t609 t610 t611 t612 _ _ t613 t625 t628 _ ?side1 ?side2 A8.out).mono ?_); (case side1 => exact xC ((Kd.R_reads' HO615.out).2.2)); (case side2 => exact (Kd.R_reads' HO615.out).2.1); rintro e w21 ⟨v626, rfl, ho0, hb⟩; refine ⟨_, rfl, ?_⟩; have HO627 := xA (Kd.R_lower (Kd.R_new' (Kd.R_new' (Kd.R_new' ho0 (Kd.R_lt (xR HO615.out))) (Kd.R_lt (xR HO619.out))) (Kd.R_lt (xR HO623.out))) (below_size (xB1 GE616.out HB.out))); replace HO615 := xA (Kd.R_elder' (xR HO615.out) (Kd.R_base ho0) hb); replace HO619 := xA (Kd.R_elder' (xR HO619.out) (Kd.R_base ho0) hb); replace HO623 := xA (Kd.R_elder' (xR HO623.out) (Kd.R_base ho0) hb); replace BK616 := xkb BK616 hb; replace HB := xA (below_step (xB1 GE616.out HB.out) hb); (try clear hb); (try clear ho0); obtain ⟨hcz22_0, hcz22_1, hcz22_2, hcz22_3, hcz22_4, hcz22_5, hfz22_0, hfz22_1, hfz22_2, hfz22_3, hfz22_4, hfz22_5⟩ := xZ6 BK616.out) | (refine xG (some 103) Try.func141 #[.agg #[.int .i64 t605, .int .i64 t606, .int .i64 t607, .int .i64 t608, .int .i64 t609, .bool t610], .int .i64 t611, .int .i64 t612, .slice Ao16 t613.length co16] ?_; (with_reducible refine (spec_ExactSecond.calls k t605 t606 t607 t608 t609 t610 t611 t612 _ _ t613 t629 t632 _ ?side1 ?side2 A9.out).mono ?_); (case side1 => exact xC ((Kd.R_reads' HO615.out).2.2)); (case side2 => exact (Kd.R_reads' HO615.out).2.1); rintro e w23 ⟨v630, rfl, ho0, hb⟩; refine ⟨_, rfl, ?_⟩; have HO631 := xA (Kd.R_lower (Kd.R_new' (Kd.R_new' (Kd.R_new' (Kd.R_new' ho0 (Kd.R_lt (xR HO615.out))) (Kd.R_lt (xR HO619.out))) (Kd.R_lt (xR HO623.out))) (Kd.R_lt (xR HO627.out))) (below_size (xB1 GE616.out HB.out))); replace HO615 := xA (Kd.R_elder' (xR HO615.out) (Kd.R_base ho0) hb); replace HO619 := xA (Kd.R_elder' (xR HO619.out) (Kd.R_base ho0) hb); replace HO623 := xA (Kd.R_elder' (xR HO623.out) (Kd.R_base ho0) hb); replace HO627 := xA (Kd.R_elder' (xR HO627.out) (Kd.R_base ho0) hb); replace BK616 := xkb BK616 hb; replace HB := xA (below_step (xB1 GE616.out HB.out) hb); (try clear hb); (try clear ho0); obtain ⟨hcz24_0, hcz24_1, hcz24_2, hcz24_3, hcz24_4, hcz24_5, hfz24_0, hfz24_1, hfz24_2, hfz24_3, hfz24_4, hfz24_5⟩ := xZ6 BK616.out) | (refine xG (some 111) Try.func142 #[.agg #[.int .i64 t605, .int .i64 t606, .int .i64 t607, .int .i64 t608, .int .i64 t609, .bool t610], .int .i64 t611, .int .i64 t612, .slice Ao16 t613.length co16] ?_; (with_reducible refine (impl_CountPairFits.calls k t605 t606 t607 t608 t609 t610 t611 t612 _ _ t613 t633 t634 _ ?side1 ?side2 A10.out).mono ?_); (case side1 => exact xC ((Kd.R_reads' HO615.out).2.2)); (case side2 => exact (Kd.R_reads' HO615.out).2.1); rintro e w25 ⟨rfl, hb⟩; refine ⟨_, rfl, ?_⟩; replace HO615 := xA (Kd.R_below (xR HO615.out) hb); replace HO619 := xA (Kd.R_below (xR HO619.out) hb); replace HO623 := xA (Kd.R_below (xR HO623.out) hb); replace HO627 := xA (Kd.R_below (xR HO627.out) hb); replace HO631 := xA (Kd.R_below (xR HO631.out) hb); replace BK616 := xkb BK616 hb; replace HB := xA (below_step (xB1 GE616.out HB.out) hb); (try clear hb); obtain ⟨hcz26_0, hcz26_1, hcz26_2, hcz26_3, hcz26_4, hcz26_5, hfz26_0, hfz26_1, hfz26_2, hfz26_3, hfz26_4, hfz26_5⟩ := xZ6 BK616.out) | (refine xG (some 119) Try.func143 #[.agg #[.int .i64 t605, .int .i64 t606, .int .i64 t607, .int .i64 t608, .int .i64 t609, .bool t610], .int .i64 t611, .int .i64 t612, .slice Ao16 t613.length co16] ?_; (with_reducible refine (spec_CountPairFits.calls k t605 t606 t607 t608 t609 t610 t611 t612 _ _ t613 t635 t636 _ ?side1 ?side2 A11.out).mono ?_); (case side1 => exact xC ((Kd.R_reads' HO615.out).2.2)); (case side2 => exact (Kd.R_reads' HO615.out).2.1); rintro e w27 ⟨rfl, hb⟩; refine ⟨_, rfl, ?_⟩; replace HO615 := xA (Kd.R_below (xR HO615.out) hb); replace HO619 := xA (Kd.R_below (xR HO619.out) hb); replace HO623 := xA (Kd.R_below (xR HO623.out) hb); replace HO627 := xA (Kd.R_below (xR HO627.out) hb); replace HO631 := xA (Kd.R_below (xR HO631.out) hb); replace BK616 := xkb BK616 hb; replace HB := xA (below_step (xB1 GE616.out HB.out) hb); (try clear hb))) | (refine xg 5 rfl ?_; refine xV 5 #[.int .i64 0, .int .i64 0, .int .i64 0, .int .i64 0, .int .i64 0, .bool false] 91 ?_; intro gb616 hg w14 hbox hb; replace HO615 := xA (Kd.R_below (xR HO615.out) hb); have BK616 := xA (hbox); have GW616 := xgw hg (below_size (xB HB.out)); have GE616 := GW616; replace HB := xA (below_step (xB HB.out) hb); clear hb hbox hg; obtain ⟨hcz15_0, hcz15_1, hcz15_2, hcz15_3, hcz15_4, hcz15_5, hfz15_0, hfz15_1, hfz15_2, hfz15_3, hfz15_4, hfz15_5⟩ := xZ6 BK616.out; obtain ⟨Ao16, co16, eo16⟩ := Kd.R_slice HO615.out; subst eo16) | ((with_reducible refine gate_store (t := 91) (p := 5) rfl ?_); refine xS6 (ty := 91) (v0 := .int .i64 t605) (v1 := .int .i64 t606) (v2 := .int .i64 t607) (v3 := .int .i64 t608) (v4 := .int .i64 t609) (v5 := .bool t610) 5 70 (xK BK616.out) ?_; intro wS616 hbk hk hB; replace HO615 := xA (Kd.R_mono (Kd.R_keep (Kd.R_types (xR HO615.out) (xK BK616.out) (by decide)) hk (fun _ h => h.2)) (fun _ h => h.1)); replace HB := xA (hB (xB HB.out) GE616.out); replace BK616 := xA hbk; clear hbk hk hB; replace hz616 := blk_cell BK616.out; replace hy616 := blk_frozen BK616.out))
 (try simp only [Act.put, List.setIfInBounds_toArray, List.set_cons_zero, List.set_cons_succ])
 go_cut [163] from 64 to 121 (fun v163 wc => ∃ (kq : Nat) (x163_11 : Bool), v163 = .bool x163_11 ∧ Aside0 (laws_FnPairsRun.j0 kq l1 t611 t612 t613 t617 t620 t625 t628 t633 x163_11 t605 t606 t607 t608 t609 t610 = some r) ∧ Aside0 (kq ≤ k) ∧ Aside0 (Kd.R (Kd.int .i64) 3 wc w.heap.size (fun k_ => some k_ ≠ (v618 : Value).ownBlock ∧ some k_ ≠ (v626 : Value).ownBlock) (.slice Ao16 t613.length co16) t613) ∧ Aside0 (Kd.R (Kd.int .i64) 3 wc w.heap.size (fun k_ => some k_ ≠ ((.slice Ao16 t613.length co16) : Value).ownBlock ∧ some k_ ≠ (v626 : Value).ownBlock) v618 t617) ∧ Aside0 (Kd.R (Kd.int .i64) 3 wc w.heap.size (fun k_ => some k_ ≠ ((.slice Ao16 t613.length co16) : Value).ownBlock ∧ some k_ ≠ (v618 : Value).ownBlock) v626 t625) ∧ Aside0 (wc.heap[gb616]? = some (.cells #[.int .i64 t605, .int .i64 t606, .int .i64 t607, .int .i64 t608, .int .i64 t609, .bool t610] 91 (0, 0))) ∧ Aside0 (Below w.heap.size w wc))
 case first => as_aux_lemma =>
  have H := HC12.out
  clear HC12
  by_cases c28 : (t620 != t624) = true
  ·rw [if_pos c28] at H; exact absurd H (by have hr_ := HRT.out; cases k <;> simp [laws_FnPairsRun.j0, hr_])
  rw [if_neg c28] at H
  have c28b0 : (t620 != t624) = false := by simpa using c28
  (try (have c28b1 : decide (t620 = t624) = true := by simpa using c28))
  (try (have c28b2 : (t620 == t624) = true := by simpa using c28))
  clear c28
  (first | rw [c28b0] | (simp only [i64_w, i32_w]; rw [c28b0]) | skip)
  obtain ⟨t637, A29, H⟩ := xO H
  (try dsimp only at H)
  by_cases c30 : t637 = true
  rotate_left
  ·replace c30 := Bool.eq_false_iff.mpr c30; subst c30; exact absurd H (by have hr_ := HRT.out; cases k <;> simp [laws_FnPairsRun.j0, hr_])
  subst c30
  rw [if_pos rfl] at H
  by_cases c31 : (t628 != t632) = true
  ·rw [if_pos c31] at H; exact absurd H (by have hr_ := HRT.out; cases k <;> simp [laws_FnPairsRun.j0, hr_])
  rw [if_neg c31] at H
  have c31b0 : (t628 != t632) = false := by simpa using c31
  (try (have c31b1 : decide (t628 = t632) = true := by simpa using c31))
  (try (have c31b2 : (t628 == t632) = true := by simpa using c31))
  clear c31
  obtain ⟨t638, A32, H⟩ := xO H
  (try dsimp only at H)
  by_cases c33 : t638 = true
  rotate_left
  ·replace c33 := Bool.eq_false_iff.mpr c33; subst c33; exact absurd H (by have hr_ := HRT.out; cases k <;> simp [laws_FnPairsRun.j0, hr_])
  subst c33
  rw [if_pos rfl] at H
  by_cases c34 : (t634 != t636) = true
  ·rw [if_pos c34] at H; exact absurd H (by have hr_ := HRT.out; cases k <;> simp [laws_FnPairsRun.j0, hr_])
  as_aux_lemma =>
   rw [if_neg c34] at H
   have c34b0 : (t634 != t636) = false := by simpa using c34
   (try (have c34b1 : decide (t634 = t636) = true := by simpa using c34))
   (try (have c34b2 : (t634 == t636) = true := by simpa using c34))
   clear c34
   by_cases c35 : t633 = t635
   rotate_left
   ·rw [if_neg c35] at H; exact absurd H (by have hr_ := HRT.out; cases k <;> simp [laws_FnPairsRun.j0, hr_])
   rw [if_pos c35] at H
   have c35b0 : (t633 == t635) = true := beq_iff_eq.mpr c35
   have c35b1 : (t633 != t635) = false := bne_eq_false_iff_eq.mpr c35
   clear c35
   by_cases c36 : (t634 != t620) = true
   ·rw [if_pos c36] at H; exact absurd H (by have hr_ := HRT.out; cases k <;> simp [laws_FnPairsRun.j0, hr_])
   rw [if_neg c36] at H
   have c36b0 : (t634 != t620) = false := by simpa using c36
   (try (have c36b1 : decide (t634 = t620) = true := by simpa using c36))
   (try (have c36b2 : (t634 == t620) = true := by simpa using c36))
   clear c36
   by_cases c37 : t628 = true
   ·subst c37
    rw [if_pos rfl] at H
    have H' := xA H
    clear H
    obtain ⟨Ao38, co38, eo38⟩ := Kd.R_slice HO619.out
    subst eo38
    obtain ⟨Ao39, co39, eo39⟩ := Kd.R_slice HO623.out
    subst eo39
    go_wp2_with (first | (go_at_call 44; (with_reducible refine (laws_uSame.calls k _ _ t617 _ _ t621 true _ ?side1 ?side2 ?side3 ?side4 A29.out).mono ?_); (case side1 => exact xC ((Kd.R_reads' HO619.out).2.2)); (case side2 => exact (Kd.R_reads' HO619.out).2.1); (case side3 => exact xC ((Kd.R_reads' HO623.out).2.2)); (case side4 => exact (Kd.R_reads' HO623.out).2.1); rintro e w' ⟨rfl, ⟨nd, rfl⟩⟩; obtain ⟨Ao40, co40, eo40⟩ := Kd.R_slice HO627.out; subst eo40; obtain ⟨Ao41, co41, eo41⟩ := Kd.R_slice HO631.out; subst eo41) | (go_at_call 44; (with_reducible refine (laws_uSame.calls k _ _ t625 _ _ t629 true _ ?side1 ?side2 ?side3 ?side4 A32.out).mono ?_); (case side1 => exact xC ((Kd.R_reads' HO627.out).2.2)); (case side2 => exact (Kd.R_reads' HO627.out).2.1); (case side3 => exact xC ((Kd.R_reads' HO631.out).2.2)); (case side4 => exact (Kd.R_reads' HO631.out).2.1); rintro e w' ⟨rfl, ⟨nd, rfl⟩⟩))
    go_meet
    case rel => exact ⟨_, (!t620), xs, H', ⟨by first | omega | exact Nat.le_refl _⟩, ⟨by (with_reducible repeat (first | apply Kd.R_alloc | apply Kd.R_drewN | apply Kd.R_drew)); exact Kd.R_mono HO615.out (fun _ hk => ⟨hk.1.1.1.2, hk.1.2⟩)⟩, ⟨by (with_reducible repeat (first | apply Kd.R_alloc | apply Kd.R_drewN | apply Kd.R_drew)); exact Kd.R_mono HO619.out (fun _ hk => ⟨hk.1.1.1.2, hk.1.2⟩)⟩, ⟨by (with_reducible repeat (first | apply Kd.R_alloc | apply Kd.R_drewN | apply Kd.R_drew)); exact Kd.R_mono HO627.out (fun _ hk => ⟨hk.1.1.1.2, hk.1.1.2⟩)⟩, ⟨xK BK616.out⟩, ⟨xB1 GE616.out HB.out⟩⟩
   replace c37 := Bool.eq_false_iff.mpr c37
   subst c37
   rw [if_neg (show ¬ (false = true) by decide)] at H
   have H' := xA H
   clear H
   obtain ⟨Ao42, co42, eo42⟩ := Kd.R_slice HO619.out
   subst eo42
   obtain ⟨Ao43, co43, eo43⟩ := Kd.R_slice HO623.out
   subst eo43
   go_wp2_with (first | (go_at_call 44; (with_reducible refine (laws_uSame.calls k _ _ t617 _ _ t621 true _ ?side1 ?side2 ?side3 ?side4 A29.out).mono ?_); (case side1 => exact xC ((Kd.R_reads' HO619.out).2.2)); (case side2 => exact (Kd.R_reads' HO619.out).2.1); (case side3 => exact xC ((Kd.R_reads' HO623.out).2.2)); (case side4 => exact (Kd.R_reads' HO623.out).2.1); rintro e w' ⟨rfl, ⟨nd, rfl⟩⟩; obtain ⟨Ao44, co44, eo44⟩ := Kd.R_slice HO627.out; subst eo44; obtain ⟨Ao45, co45, eo45⟩ := Kd.R_slice HO631.out; subst eo45) | (go_at_call 44; (with_reducible refine (laws_uSame.calls k _ _ t625 _ _ t629 true _ ?side1 ?side2 ?side3 ?side4 A32.out).mono ?_); (case side1 => exact xC ((Kd.R_reads' HO627.out).2.2)); (case side2 => exact (Kd.R_reads' HO627.out).2.1); (case side3 => exact xC ((Kd.R_reads' HO631.out).2.2)); (case side4 => exact (Kd.R_reads' HO631.out).2.1); rintro e w' ⟨rfl, ⟨nd, rfl⟩⟩))
   go_meet
   case rel => exact ⟨_, (false), xs, H', ⟨by first | omega | exact Nat.le_refl _⟩, ⟨by (with_reducible repeat (first | apply Kd.R_alloc | apply Kd.R_drewN | apply Kd.R_drew)); exact Kd.R_mono HO615.out (fun _ hk => ⟨hk.1.1.1.2, hk.1.2⟩)⟩, ⟨by (with_reducible repeat (first | apply Kd.R_alloc | apply Kd.R_drewN | apply Kd.R_drew)); exact Kd.R_mono HO619.out (fun _ hk => ⟨hk.1.1.1.2, hk.1.2⟩)⟩, ⟨by (with_reducible repeat (first | apply Kd.R_alloc | apply Kd.R_drewN | apply Kd.R_drew)); exact Kd.R_mono HO627.out (fun _ hk => ⟨hk.1.1.1.2, hk.1.1.2⟩)⟩, ⟨xK BK616.out⟩, ⟨xB1 GE616.out HB.out⟩⟩
 case rest =>
  clear HC12
  try clear c1
  try clear c4
  try clear hcz15_0
  try clear hcz15_1
  try clear hcz15_2
  try clear hcz15_3
  try clear hcz15_4
  try clear hcz15_5
  try clear hcz18_0
  try clear hcz18_1
  try clear hcz18_2
  try clear hcz18_3
  try clear hcz18_4
  try clear hcz18_5
  try clear hcz20_0
  try clear hcz20_1
  try clear hcz20_2
  try clear hcz20_3
  try clear hcz20_4
  try clear hcz20_5
  try clear hcz22_0
  try clear hcz22_1
  try clear hcz22_2
  try clear hcz22_3
  try clear hcz22_4
  try clear hcz22_5
  try clear hcz24_0
  try clear hcz24_1
  try clear hcz24_2
  try clear hcz24_3
  try clear hcz24_4
  try clear hcz24_5
  try clear hcz26_0
  try clear hcz26_1
  try clear hcz26_2
  try clear hcz26_3
  try clear hcz26_4
  try clear hcz26_5
  try clear hfz15_0
  try clear hfz15_1
  try clear hfz15_2
  try clear hfz15_3
  try clear hfz15_4
  try clear hfz15_5
  try clear hfz18_0
  try clear hfz18_1
  try clear hfz18_2
  try clear hfz18_3
  try clear hfz18_4
  try clear hfz18_5
  try clear hfz20_0
  try clear hfz20_1
  try clear hfz20_2
  try clear hfz20_3
  try clear hfz20_4
  try clear hfz20_5
  try clear hfz22_0
  try clear hfz22_1
  try clear hfz22_2
  try clear hfz22_3
  try clear hfz22_4
  try clear hfz22_5
  try clear hfz24_0
  try clear hfz24_1
  try clear hfz24_2
  try clear hfz24_3
  try clear hfz24_4
  try clear hfz24_5
  try clear hfz26_0
  try clear hfz26_1
  try clear hfz26_2
  try clear hfz26_3
  try clear hfz26_4
  try clear hfz26_5
  obtain ⟨kq, x163_11, rfl, HA, HJ11, HO_8, HO_9, HO_13, BK616, HB⟩ := hcut
  cases kq with
  | zero => exact absurd HA.out (by simp [laws_FnPairsRun.j0])
  | succ kj11 =>
   have H := HA.out
   clear HA
   simp only [laws_FnPairsRun.j0] at H
   by_cases c46 : x163_11 = true
   ·as_aux_lemma =>
     subst c46
     rw [if_pos rfl] at H
     exact absurd ((Option.some.inj H).trans HRT.out) (by decide)
   replace c46 := Bool.eq_false_iff.mpr c46
   subst c46
   rw [if_neg (show ¬ (false = true) by decide)] at H
   have HC47 := xA H
   clear H
   go_upto_if 164 with (fail)
   go_cut [] from 122 to 164 (fun wc => ∃ (kq : Nat), Aside0 (laws_FnPairsRun.j2 kq l1 = some r) ∧ Aside0 (kq ≤ kj11) ∧ Aside0 (wc.heap[gb616]? = some (.cells #[.int .i64 t605, .int .i64 t606, .int .i64 t607, .int .i64 t608, .int .i64 t609, .bool t610] 91 (0, 0))) ∧ Aside0 (Below w.heap.size w wc))
   case first => as_aux_lemma =>
    have H := HC47.out
    clear HC47
    by_cases c48 : t620 = true
    rotate_left
    ·as_aux_lemma =>
      replace c48 := Bool.eq_false_iff.mpr c48
      subst c48
      rw [if_neg (show ¬ (false = true) by decide)] at H
      have H' := xA H
      clear H
      go_wp2
      go_meet
      case rel => exact ⟨_, H', ⟨by have := HJ11.out; first | omega | exact Nat.le_refl _⟩, ⟨xK BK616.out⟩, ⟨xB1 GE616.out HB.out⟩⟩
    subst c48
    rw [if_pos rfl] at H
    have H' := xA H
    clear H
    go_wp2
    go_loopg [21, 22, 169] kj11 (fun kq v21 v22 v169 w' => ∃ (x21_2 : Int) (x22_2 : Int) (x169_2 : Int), v21 = .int .i64 x21_2 ∧ v22 = .int .i64 x22_2 ∧ v169 = .int .i64 x169_2 ∧ Aside0 (laws_FnPairsRun.l0 kq l1 t617 t625 t628 t633 x21_2 x22_2 t613 (t613.length : Int) x169_2 t605 t606 t607 t608 t609 t610 = some r) ∧ Aside0 (kq ≤ kj11) ∧ Aside0 (Kd.R (Kd.int .i64) 3 w' w.heap.size (fun k_ => some k_ ≠ (v626 : Value).ownBlock ∧ some k_ ≠ ((.slice Ao16 t613.length co16) : Value).ownBlock) v618 t617) ∧ Aside0 (Kd.R (Kd.int .i64) 3 w' w.heap.size (fun k_ => some k_ ≠ (v618 : Value).ownBlock ∧ some k_ ≠ ((.slice Ao16 t613.length co16) : Value).ownBlock) v626 t625) ∧ Aside0 (Kd.R (Kd.int .i64) 3 w' w.heap.size (fun k_ => some k_ ≠ (v618 : Value).ownBlock ∧ some k_ ≠ (v626 : Value).ownBlock) (.slice Ao16 t613.length co16) t613) ∧ Aside0 (w'.heap[gb616]? = some (.cells #[.int .i64 t605, .int .i64 t606, .int .i64 t607, .int .i64 t608, .int .i64 t609, .bool t610] 91 (0, 0))) ∧ Aside0 (Below w.heap.size w w'))
    case atStart => exact ⟨(t611), (t612), (0), xs, xs, xs, H', ⟨Nat.le_refl _⟩, ⟨by (with_reducible repeat (first | apply Kd.R_alloc | apply Kd.R_drewN | apply Kd.R_drew)); exact Kd.R_mono HO_9.out (fun _ hk => ⟨hk.2, hk.1⟩)⟩, ⟨by (with_reducible repeat (first | apply Kd.R_alloc | apply Kd.R_drewN | apply Kd.R_drew)); exact Kd.R_mono HO_13.out (fun _ hk => ⟨hk.2, hk.1⟩)⟩, ⟨xR HO_8.out⟩, ⟨xK BK616.out⟩, ⟨xB1 GE616.out HB.out⟩⟩
    case round =>
     clear H'
     try clear c46
     try clear c48
     obtain ⟨x21_2, x22_2, x169_2, rfl, rfl, rfl, HA, HK2, HO_9, HO_13, HO_167, BK616, HB⟩ := hrel
     cases gk with
     | zero => exact absurd HA.out (by simp [laws_FnPairsRun.l0])
     | succ k2 =>
      have H := HA.out
      clear HA
      simp only [laws_FnPairsRun.l0] at H
      by_cases c49 : x169_2 < (t613.length : Int)
      ·rw [if_pos c49] at H
       have c49b0 : decide (x169_2 < (t613.length : Int)) = true := decide_eq_true c49
       clear c49
       (first | rw [c49b0] | (simp only [i64_w, i32_w]; rw [c49b0]) | skip)
       by_cases c50 : 0 ≤ x169_2
       rotate_left
       ·rw [if_neg c50] at H
        exact absurd H (by simp)
       rw [if_pos c50] at H
       have c50b0 : decide (0 ≤ x169_2) = true := decide_eq_true c50
       clear c50
       by_cases c51 : x169_2 < (t613.length : Int)
       rotate_left
       ·rw [if_neg c51] at H
        exact absurd H (by simp)
       rw [if_pos c51] at H
       have c51b0 : decide (x169_2 < (t613.length : Int)) = true := decide_eq_true c51
       clear c51
       replace H := Option.bind_eq_some_iff.mp H
       obtain ⟨⟨t640, t641⟩, A520, H⟩ := H
       (try dsimp only at H)
       have A52 := xA A520
       clear A520
       by_cases c53 : t641 = true
       rotate_left
       ·as_aux_lemma =>
         replace c53 := Bool.eq_false_iff.mpr c53
         subst c53
         rw [if_neg (show ¬ (false = true) by decide)] at H
         exact absurd ((Option.some.inj H).trans HRT.out) (by decide)
       as_aux_lemma =>
        subst c53
        rw [if_pos rfl] at H
        by_cases c54 : x169_2 < (t617.length : Int)
        rotate_left
        ·rw [if_neg c54] at H
         exact absurd H (by simp)
        rw [if_pos c54] at H
        have c54b0 : decide (x169_2 < (t617.length : Int)) = true := decide_eq_true c54
        clear c54
        by_cases c55 : t640 = (rd t617 x169_2)
        rotate_left
        ·rw [if_neg c55] at H
         have c55b0 : (t640 == (rd t617 x169_2)) = false := beq_eq_false_iff_ne.mpr c55
         have c55b1 : (t640 != (rd t617 x169_2)) = true := bne_iff_ne.mpr c55
         exact absurd ((Option.some.inj H).trans HRT.out) (by decide)
        rw [if_pos c55] at H
        have c55b0 : (t640 == (rd t617 x169_2)) = true := beq_iff_eq.mpr c55
        have c55b1 : (t640 != (rd t617 x169_2)) = false := bne_eq_false_iff_eq.mpr c55
        clear c55
        have H' := xA H
        clear H
        have p639 : 0 ≤ (x169_2 : Int) := of_decide_eq_true (by first | (with_reducible assumption) | assumption)
        have q639 : x169_2 < (t613.length : Int) := of_decide_eq_true (by first | (with_reducible assumption) | assumption)
        obtain ⟨ad639, e639, hx639_0⟩ := Kd.at_int (Kd.R_reads' HO_167.out).2.2 x169_2 p639 q639
        cases e639
        replace p639 := eq_true p639
        replace q639 := eq_true q639
        replace hz616 := blk_cell BK616.out; replace hy616 := blk_frozen BK616.out
        go_wp2_with (first | (refine xG (some 179) Try.func144 #[.agg #[.int .i64 t605, .int .i64 t606, .int .i64 t607, .int .i64 t608, .int .i64 t609, .bool t610], .int .i64 x21_2, .int .i64 x22_2, .int .i64 (rd t613 x169_2)] ?_; (with_reducible refine (impl_SecondStep.calls k2 t605 t606 t607 t608 t609 t610 x21_2 x22_2 (rd t613 x169_2) t640 true _ A52.out).mono ?_); rintro e w57 ⟨rfl, hb⟩; refine ⟨_, rfl, ?_⟩; replace HO_9 := xA (Kd.R_below (xR HO_9.out) hb); replace HO_13 := xA (Kd.R_below (xR HO_13.out) hb); replace HO_167 := xA (Kd.R_below (xR HO_167.out) hb); replace BK616 := xkb BK616 hb; replace HB := xA (below_step (xB1 GE616.out HB.out) hb); (try clear hb); obtain ⟨Ao58, co58, eo58⟩ := Kd.R_slice HO_9.out; subst eo58; have p642 : 0 ≤ (x169_2 : Int) := of_decide_eq_true (by first | (with_reducible assumption) | assumption); have q642 : x169_2 < (t617.length : Int) := of_decide_eq_true (by first | (with_reducible assumption) | assumption); obtain ⟨ad642, e642, hx642_0⟩ := Kd.at_int (Kd.R_reads' HO_9.out).2.2 x169_2 p642 q642; cases e642; replace p642 := eq_true p642; replace q642 := eq_true q642))
        go_roundg k2
        case measure => have := HJ11.out; have := HK2.out; omega
        case rel => exact ⟨(t640), (x21_2), (wrap64 (x169_2 + 1)), xs, xs, xs, H', ⟨by have := HJ11.out; have := HK2.out; omega⟩, ⟨xR HO_9.out⟩, ⟨xR HO_13.out⟩, ⟨xR HO_167.out⟩, ⟨xK BK616.out⟩, ⟨xB1 GE616.out HB.out⟩⟩
      rw [if_neg c49] at H
      have c49b0 : decide (x169_2 < (t613.length : Int)) = false := decide_eq_false c49
      clear c49
      (first | rw [c49b0] | (simp only [i64_w, i32_w]; rw [c49b0]) | skip)
      by_cases c59 : t607 = 0
      rotate_left
      ·as_aux_lemma =>
        rw [if_neg c59] at H
        have c59b0 : (t607 == 0) = false := beq_eq_false_iff_ne.mpr c59
        have c59b1 : (t607 != 0) = true := bne_iff_ne.mpr c59
        have H' := xA H
        clear H
        replace hz616 := blk_cell BK616.out; replace hy616 := blk_frozen BK616.out
        go_wp2
        go_meet
        case rel => exact ⟨_, H', ⟨by have := HJ11.out; have := HK2.out; first | omega | exact Nat.le_refl _⟩, ⟨xK BK616.out⟩, ⟨xB1 GE616.out HB.out⟩⟩
      rw [if_pos c59] at H
      have c59b0 : (t607 == 0) = true := beq_iff_eq.mpr c59
      have c59b1 : (t607 != 0) = false := bne_eq_false_iff_eq.mpr c59
      clear c59
      by_cases c60 : t628 = true
      rotate_left
      ·as_aux_lemma =>
        replace c60 := Bool.eq_false_iff.mpr c60
        subst c60
        rw [if_neg (show ¬ (false = true) by decide)] at H
        have H' := xA H
        clear H
        replace hz616 := blk_cell BK616.out; replace hy616 := blk_frozen BK616.out
        go_wp2
        go_meet
        case rel => exact ⟨_, H', ⟨by have := HJ11.out; have := HK2.out; first | omega | exact Nat.le_refl _⟩, ⟨xK BK616.out⟩, ⟨xB1 GE616.out HB.out⟩⟩
      subst c60
      rw [if_pos rfl] at H
      by_cases c61 : t633 = 0
      rotate_left
      ·as_aux_lemma =>
        rw [if_neg c61] at H
        have c61b0 : (t633 == 0) = false := beq_eq_false_iff_ne.mpr c61
        have c61b1 : (t633 != 0) = true := bne_iff_ne.mpr c61
        have H' := xA H
        clear H
        replace hz616 := blk_cell BK616.out; replace hy616 := blk_frozen BK616.out
        go_wp2
        go_meet
        case rel => exact ⟨_, H', ⟨by have := HJ11.out; have := HK2.out; first | omega | exact Nat.le_refl _⟩, ⟨xK BK616.out⟩, ⟨xB1 GE616.out HB.out⟩⟩
      as_aux_lemma =>
       rw [if_pos c61] at H
       have c61b0 : (t633 == 0) = true := beq_iff_eq.mpr c61
       have c61b1 : (t633 != 0) = false := bne_eq_false_iff_eq.mpr c61
       clear c61
       obtain ⟨t643, A62, H⟩ := xO H
       (try dsimp only at H)
       by_cases c63 : t643 = true
       rotate_left
       ·replace c63 := Bool.eq_false_iff.mpr c63
        subst c63
        rw [if_neg (show ¬ (false = true) by decide)] at H
        exact absurd ((Option.some.inj H).trans HRT.out) (by decide)
       subst c63
       rw [if_pos rfl] at H
       have H' := xA H
       clear H
       replace hz616 := blk_cell BK616.out; replace hy616 := blk_frozen BK616.out
       obtain ⟨Ao65, co65, eo65⟩ := Kd.R_slice HO_13.out
       subst eo65
       obtain ⟨Ao66, co66, eo66⟩ := Kd.R_slice HO_9.out
       subst eo66
       go_wp2_with (first | (go_at_call 44; (with_reducible refine (laws_uSame.calls k2 _ _ t625 _ _ t617 true _ ?side1 ?side2 ?side3 ?side4 A62.out).mono ?_); (case side1 => exact xC ((Kd.R_reads' HO_13.out).2.2)); (case side2 => exact (Kd.R_reads' HO_13.out).2.1); (case side3 => exact xC ((Kd.R_reads' HO_9.out).2.2)); (case side4 => exact (Kd.R_reads' HO_9.out).2.1); rintro e w' ⟨rfl, ⟨nd, rfl⟩⟩))
       go_meet
       case rel => exact ⟨_, H', ⟨by have := HJ11.out; have := HK2.out; first | omega | exact Nat.le_refl _⟩, ⟨xK BK616.out⟩, ⟨xB1 GE616.out HB.out⟩⟩
   case rest =>
    clear HC47
    try clear c46
    obtain ⟨kq, HA, HJ46, BK616, HB⟩ := hcut
    cases kq with
    | zero => exact absurd HA.out (by simp [laws_FnPairsRun.j2])
    | succ kj46 =>
     have H := HA.out
     clear HA
     simp only [laws_FnPairsRun.j2] at H
     replace H := Option.bind_eq_some_iff.mp H
     obtain ⟨⟨t644, t645, t646, t647, t648, t649, t650, t651, t652, t653⟩, A700, H⟩ := H
     (try dsimp only at H)
     have A70 := xA A700
     clear A700
     replace H := Option.bind_eq_some_iff.mp H
     obtain ⟨⟨t656, t657, t658, t659, t660, t661, t662⟩, A710, H⟩ := H
     (try dsimp only at H)
     have A71 := xA A710
     clear A710
     replace H := Option.bind_eq_some_iff.mp H
     obtain ⟨⟨t664, t665, t666, t667, t668, t669, t670⟩, A720, H⟩ := H
     (try dsimp only at H)
     have A72 := xA A720
     clear A720
     have HC73 := xA H
     clear H
     go_upto_region 28 with (first | (refine xq rfl ?_; first | (refine xG (some 213) Try.func145 #[.slice A1 l1.length c1] ?_; (with_reducible refine (spec_DrawSecondOfFirsts.calls _ _ l1 t644 t645 t646 t647 t648 t649 t650 t651 t652 t653 _ ?side1 ?side2 A70.out).mono ?_); (case side1 => exact xC (Kd.C_below HR1.out HB.out)); (case side2 => exact HC1.out); rintro e w74 ⟨rfl, hb⟩; refine ⟨_, rfl, ?_⟩; replace BK616 := xkb BK616 hb; replace HB := xA (below_step (xB1 GE616.out HB.out) hb); (try clear hb)) | (refine xG (some 219) Try.func146 #[.agg #[.int .i64 t644, .int .i64 t645, .int .i64 t646, .int .i64 t647, .bool t648], .agg #[.int .i64 t649, .int .i64 t650, .int .i64 t651, .int .i64 t652, .bool t653]] ?_; (with_reducible refine (impl_SecondOfFirsts.calls kj46 t644 t645 t646 t647 t648 t649 t650 t651 t652 t653 t656 t657 t658 t659 t660 t661 t662 _ A71.out).mono ?_); rintro e w82 ⟨rfl, hb⟩; refine ⟨_, rfl, ?_⟩; replace BK616 := xkb BK616 hb; replace BK654 := xkb BK654 hb; replace BK655 := xkb BK655 hb; replace HB := xA (below_step (xB3 GE616.out GE654.out GE655.out HB.out) hb); (try clear hb)) | (refine xG (some 225) Try.func147 #[.agg #[.int .i64 t644, .int .i64 t645, .int .i64 t646, .int .i64 t647, .bool t648], .agg #[.int .i64 t649, .int .i64 t650, .int .i64 t651, .int .i64 t652, .bool t653]] ?_; (with_reducible refine (spec_SecondOfFirsts.calls kj46 t644 t645 t646 t647 t648 t649 t650 t651 t652 t653 t664 t665 t666 t667 t668 t669 t670 _ A72.out).mono ?_); rintro e w90 ⟨rfl, hb⟩; refine ⟨_, rfl, ?_⟩; replace BK616 := xkb BK616 hb; replace BK654 := xkb BK654 hb; replace BK655 := xkb BK655 hb; replace BK663 := xkb BK663 hb; replace HB := xA (below_step (xB4 GE616.out GE654.out GE655.out GE663.out HB.out) hb); (try clear hb))) | (refine xg 27 rfl ?_; refine xV 27 #[.int .i64 0, .int .i64 0, .int .i64 0, .int .i64 0, .bool false] 62 ?_; intro gb654 hg w75 hbox hb; have BK654 := xA (hbox); have GW654 := xgw hg (below_size (xB1 GE616.out HB.out)); have GE654 := GW654; replace HB := xA (below_step (xB1 GE616.out HB.out) hb); have NB616_654 := xnl hg BK616; have NB654_616 := xng hg BK616; replace BK616 := xkb BK616 hb; clear hb hbox hg) | (refine xg 28 rfl ?_; refine xV 28 #[.int .i64 0, .int .i64 0, .int .i64 0, .int .i64 0, .bool false] 62 ?_; intro gb655 hg w76 hbox hb; have BK655 := xA (hbox); have GW655 := xgw hg (below_size (xB2 GE616.out GE654.out HB.out)); have GE655 := GW655; replace HB := xA (below_step (xB2 GE616.out GE654.out HB.out) hb); have NB616_655 := xnl hg BK616; have NB655_616 := xng hg BK616; replace BK616 := xkb BK616 hb; have NB654_655 := xnl hg BK654; have NB655_654 := xng hg BK654; replace BK654 := xkb BK654 hb; clear hb hbox hg; have hnb77 := NB654_616.out; have hnc77 := NB616_654.out; have hnb78 := NB654_655.out; have hnc78 := NB655_654.out; obtain ⟨hcz79_0, hcz79_1, hcz79_2, hcz79_3, hcz79_4, hfz79_0, hfz79_1, hfz79_2, hfz79_3, hfz79_4⟩ := xZ5 BK654.out; have hnb80 := NB655_616.out; have hnc80 := NB616_655.out; obtain ⟨hcz81_0, hcz81_1, hcz81_2, hcz81_3, hcz81_4, hfz81_0, hfz81_1, hfz81_2, hfz81_3, hfz81_4⟩ := xZ5 BK655.out) | ((with_reducible refine gate_store (t := 62) (p := 27) rfl ?_); refine xS5 (ty := 62) (v0 := .int .i64 t644) (v1 := .int .i64 t645) (v2 := .int .i64 t646) (v3 := .int .i64 t647) (v4 := .bool t648) 27 214 (xK BK654.out) ?_; intro wS654 hbk hk hB; replace HB := xA (hB (xB HB.out) GE654.out); replace BK616 := xkk hk BK616 NB616_654; replace BK655 := xkk hk BK655 NB655_654; replace BK654 := xA hbk; clear hbk hk hB; replace hz654 := blk_cell BK654.out; replace hy654 := blk_frozen BK654.out; replace hz616 := blk_cell BK616.out; replace hy616 := blk_frozen BK616.out; replace hz655 := blk_cell BK655.out; replace hy655 := blk_frozen BK655.out) | ((with_reducible refine gate_store (t := 62) (p := 28) rfl ?_); refine xS5 (ty := 62) (v0 := .int .i64 t649) (v1 := .int .i64 t650) (v2 := .int .i64 t651) (v3 := .int .i64 t652) (v4 := .bool t653) 28 215 (xK BK655.out) ?_; intro wS655 hbk hk hB; replace HB := xA (hB (xB HB.out) GE655.out); replace BK616 := xkk hk BK616 NB616_655; replace BK654 := xkk hk BK654 NB654_655; replace BK655 := xA hbk; clear hbk hk hB; replace hz655 := blk_cell BK655.out; replace hy655 := blk_frozen BK655.out; replace hz616 := blk_cell BK616.out; replace hy616 := blk_frozen BK616.out; replace hz654 := blk_cell BK654.out; replace hy654 := blk_frozen BK654.out) | (refine xg 29 rfl ?_; refine xV 29 #[.int .i64 0, .int .i64 0, .int .i64 0, .int .i64 0, .int .i64 0, .bool false] 91 ?_; intro gb663 hg w83 hbox hb; have BK663 := xA (hbox); have GW663 := xgw hg (below_size (xB3 GE616.out GE654.out GE655.out HB.out)); have GE663 := GW663; replace HB := xA (below_step (xB3 GE616.out GE654.out GE655.out HB.out) hb); have NB616_663 := xnl hg BK616; have NB663_616 := xng hg BK616; replace BK616 := xkb BK616 hb; have NB654_663 := xnl hg BK654; have NB663_654 := xng hg BK654; replace BK654 := xkb BK654 hb; have NB655_663 := xnl hg BK655; have NB663_655 := xng hg BK655; replace BK655 := xkb BK655 hb; clear hb hbox hg; have hnb84 := NB663_616.out; have hnc84 := NB616_663.out; have hnb85 := NB663_654.out; have hnc85 := NB654_663.out; have hnb86 := NB663_655.out; have hnc86 := NB655_663.out; obtain ⟨hcz87_0, hcz87_1, hcz87_2, hcz87_3, hcz87_4, hcz87_5, hfz87_0, hfz87_1, hfz87_2, hfz87_3, hfz87_4, hfz87_5⟩ := xZ6 BK663.out; obtain ⟨hcz88_0, hcz88_1, hcz88_2, hcz88_3, hcz88_4, hfz88_0, hfz88_1, hfz88_2, hfz88_3, hfz88_4⟩ := xZ5 BK654.out; obtain ⟨hcz89_0, hcz89_1, hcz89_2, hcz89_3, hcz89_4, hfz89_0, hfz89_1, hfz89_2, hfz89_3, hfz89_4⟩ := xZ5 BK655.out) | ((with_reducible refine gate_store (t := 91) (p := 29) rfl ?_); refine xS6 (ty := 91) (v0 := .int .i64 t656) (v1 := .int .i64 t657) (v2 := .int .i64 t658) (v3 := .int .i64 t659) (v4 := .int .i64 t660) (v5 := .bool t661) 29 220 (xK BK663.out) ?_; intro wS663 hbk hk hB; replace HB := xA (hB (xB HB.out) GE663.out); replace BK616 := xkk hk BK616 NB616_663; replace BK654 := xkk hk BK654 NB654_663; replace BK655 := xkk hk BK655 NB655_663; replace BK663 := xA hbk; clear hbk hk hB; replace hz663 := blk_cell BK663.out; replace hy663 := blk_frozen BK663.out; replace hz616 := blk_cell BK616.out; replace hy616 := blk_frozen BK616.out; replace hz654 := blk_cell BK654.out; replace hy654 := blk_frozen BK654.out; replace hz655 := blk_cell BK655.out; replace hy655 := blk_frozen BK655.out) | (refine xg 31 rfl ?_; refine xV 31 #[.int .i64 0, .int .i64 0, .int .i64 0, .int .i64 0, .int .i64 0, .bool false] 91 ?_; intro gb671 hg w91 hbox hb; have BK671 := xA (hbox); have GW671 := xgw hg (below_size (xB4 GE616.out GE654.out GE655.out GE663.out HB.out)); have GE671 := GW671; replace HB := xA (below_step (xB4 GE616.out GE654.out GE655.out GE663.out HB.out) hb); have NB616_671 := xnl hg BK616; have NB671_616 := xng hg BK616; replace BK616 := xkb BK616 hb; have NB654_671 := xnl hg BK654; have NB671_654 := xng hg BK654; replace BK654 := xkb BK654 hb; have NB655_671 := xnl hg BK655; have NB671_655 := xng hg BK655; replace BK655 := xkb BK655 hb; have NB663_671 := xnl hg BK663; have NB671_663 := xng hg BK663; replace BK663 := xkb BK663 hb; clear hb hbox hg; have hnb92 := NB671_616.out; have hnc92 := NB616_671.out; have hnb93 := NB671_654.out; have hnc93 := NB654_671.out; have hnb94 := NB671_655.out; have hnc94 := NB655_671.out; have hnb95 := NB671_663.out; have hnc95 := NB663_671.out; obtain ⟨hcz96_0, hcz96_1, hcz96_2, hcz96_3, hcz96_4, hcz96_5, hfz96_0, hfz96_1, hfz96_2, hfz96_3, hfz96_4, hfz96_5⟩ := xZ6 BK671.out) | ((with_reducible refine gate_store (t := 91) (p := 31) rfl ?_); refine xS6 (ty := 91) (v0 := .int .i64 t664) (v1 := .int .i64 t665) (v2 := .int .i64 t666) (v3 := .int .i64 t667) (v4 := .int .i64 t668) (v5 := .bool t669) 31 226 (xK BK671.out) ?_; intro wS671 hbk hk hB; replace HB := xA (hB (xB HB.out) GE671.out); replace BK616 := xA (KeepBut.blk hk (xK BK616.out) NB616_671.out (by simp)); replace BK654 := xA (KeepBut.blk hk (xK BK654.out) NB654_671.out (by simp)); replace BK655 := xA (KeepBut.blk hk (xK BK655.out) NB655_671.out (by simp)); replace BK663 := xA (KeepBut.blk hk (xK BK663.out) NB663_671.out (by simp)); replace BK671 := xA hbk; clear hbk hk hB; obtain ⟨hcs671_0, hcs671_1, hcs671_2, hcs671_3, hcs671_4, hcs671_5, hfs671_0, hfs671_1, hfs671_2, hfs671_3, hfs671_4, hfs671_5⟩ := xZ6 BK671.out; replace hz616 := blk_cell BK616.out; replace hy616 := blk_frozen BK616.out; replace hz654 := blk_cell BK654.out; replace hy654 := blk_frozen BK654.out; replace hz655 := blk_cell BK655.out; replace hy655 := blk_frozen BK655.out; replace hz663 := blk_cell BK663.out; replace hy663 := blk_frozen BK663.out))
     (try simp only [Act.put, List.setIfInBounds_toArray, List.set_cons_zero, List.set_cons_succ])
     go_cut [235] from 165 to 227 (fun v235 wc => ∃ (kq : Nat) (x235_72 : Bool), v235 = .bool x235_72 ∧ Aside0 (laws_FnPairsRun.j3 kq l1 t662 x235_72 t644 t645 t646 t647 t648 t649 t650 t651 t652 t653 t656 t657 t658 t659 t660 t661 = some r) ∧ Aside0 (kq ≤ kj46) ∧ Aside0 (wc.heap[gb616]? = some (.cells #[.int .i64 t605, .int .i64 t606, .int .i64 t607, .int .i64 t608, .int .i64 t609, .bool t610] 91 (0, 0))) ∧ Aside0 (wc.heap[gb654]? = some (.cells #[.int .i64 t644, .int .i64 t645, .int .i64 t646, .int .i64 t647, .bool t648] 62 (0, 0))) ∧ Aside0 (wc.heap[gb655]? = some (.cells #[.int .i64 t649, .int .i64 t650, .int .i64 t651, .int .i64 t652, .bool t653] 62 (0, 0))) ∧ Aside0 (wc.heap[gb663]? = some (.cells #[.int .i64 t656, .int .i64 t657, .int .i64 t658, .int .i64 t659, .int .i64 t660, .bool t661] 91 (0, 0))) ∧ Aside0 (wc.heap[gb671]? = some (.cells #[.int .i64 t664, .int .i64 t665, .int .i64 t666, .int .i64 t667, .int .i64 t668, .bool t669] 91 (0, 0))) ∧ Aside0 (Below w.heap.size w wc))
     case first => as_aux_lemma =>
      have H := HC73.out
      clear HC73
      by_cases c97 : (t662 != t670) = true
      ·rw [if_pos c97] at H; exact absurd H (by have hr_ := HRT.out; cases kj46 <;> simp [laws_FnPairsRun.j3, hr_])
      as_aux_lemma =>
       rw [if_neg c97] at H
       have c97b0 : (t662 != t670) = false := by simpa using c97
       (try (have c97b1 : decide (t662 = t670) = true := by simpa using c97))
       (try (have c97b2 : (t662 == t670) = true := by simpa using c97))
       clear c97
       (first | rw [c97b0] | (simp only [i64_w, i32_w]; rw [c97b0]) | skip)
       have H' := xA H
       clear H
       have hnb98 := NB663_616.out
       have hnc98 := NB616_663.out
       have hnb99 := NB663_654.out
       have hnc99 := NB654_663.out
       have hnb100 := NB663_655.out
       have hnc100 := NB655_663.out
       have hnb101 := NB663_671.out
       have hnc101 := NB671_663.out
       replace hz663 := blk_cell BK663.out; replace hy663 := blk_frozen BK663.out
       have hnb103 := NB671_616.out
       have hnc103 := NB616_671.out
       have hnb104 := NB671_654.out
       have hnc104 := NB654_671.out
       have hnb105 := NB671_655.out
       have hnc105 := NB655_671.out
       replace hz671 := blk_cell BK671.out; replace hy671 := blk_frozen BK671.out
       go_wp2
       all_goals go_meet
       all_goals exact ⟨_, ((!(t656 == t664) || (!(t657 == t665) || (!(t658 == t666) || (!(t659 == t667) || ((!(t660 == t668) || (!(t661 == t669))))))))), xs, H', ⟨by have := HJ11.out; have := HJ46.out; first | omega | exact Nat.le_refl _⟩, ⟨xK BK616.out⟩, ⟨xK BK654.out⟩, ⟨xK BK655.out⟩, ⟨xK BK663.out⟩, ⟨xK BK671.out⟩, ⟨xB5 GE616.out GE654.out GE655.out GE663.out GE671.out HB.out⟩⟩
     case rest =>
      clear HC73
      try clear hcz79_0
      try clear hcz79_1
      try clear hcz79_2
      try clear hcz79_3
      try clear hcz79_4
      try clear hcz81_0
      try clear hcz81_1
      try clear hcz81_2
      try clear hcz81_3
      try clear hcz81_4
      try clear hcz87_0
      try clear hcz87_1
      try clear hcz87_2
      try clear hcz87_3
      try clear hcz87_4
      try clear hcz87_5
      try clear hcz88_0
      try clear hcz88_1
      try clear hcz88_2
      try clear hcz88_3
      try clear hcz88_4
      try clear hcz89_0
      try clear hcz89_1
      try clear hcz89_2
      try clear hcz89_3
      try clear hcz89_4
      try clear hcz96_0
      try clear hcz96_1
      try clear hcz96_2
      try clear hcz96_3
      try clear hcz96_4
      try clear hcz96_5
      try clear hfz79_0
      try clear hfz79_1
      try clear hfz79_2
      try clear hfz79_3
      try clear hfz79_4
      try clear hfz81_0
      try clear hfz81_1
      try clear hfz81_2
      try clear hfz81_3
      try clear hfz81_4
      try clear hfz87_0
      try clear hfz87_1
      try clear hfz87_2
      try clear hfz87_3
      try clear hfz87_4
      try clear hfz87_5
      try clear hfz88_0
      try clear hfz88_1
      try clear hfz88_2
      try clear hfz88_3
      try clear hfz88_4
      try clear hfz89_0
      try clear hfz89_1
      try clear hfz89_2
      try clear hfz89_3
      try clear hfz89_4
      try clear hfz96_0
      try clear hfz96_1
      try clear hfz96_2
      try clear hfz96_3
      try clear hfz96_4
      try clear hfz96_5
      obtain ⟨kq, x235_72, rfl, HA, HJ72, BK616, BK654, BK655, BK663, BK671, HB⟩ := hcut
      cases kq with
      | zero => exact absurd HA.out (by simp [laws_FnPairsRun.j3])
      | succ kj72 =>
       have H := HA.out
       clear HA
       simp only [laws_FnPairsRun.j3] at H
       by_cases c107 : x235_72 = true
       ·as_aux_lemma =>
         subst c107
         rw [if_pos rfl] at H
         exact absurd ((Option.some.inj H).trans HRT.out) (by decide)
       replace c107 := Bool.eq_false_iff.mpr c107
       subst c107
       rw [if_neg (show ¬ (false = true) by decide)] at H
       have HC108 := xA H
       clear H
       go_upto_if 236 with (fail)
       go_cut [] from 228 to 236 (fun wc => ∃ (kq : Nat), Aside0 (laws_FnPairsRun.j5 kq l1 = some r) ∧ Aside0 (kq ≤ kj72) ∧ Aside0 (wc.heap[gb616]? = some (.cells #[.int .i64 t605, .int .i64 t606, .int .i64 t607, .int .i64 t608, .int .i64 t609, .bool t610] 91 (0, 0))) ∧ Aside0 (wc.heap[gb654]? = some (.cells #[.int .i64 t644, .int .i64 t645, .int .i64 t646, .int .i64 t647, .bool t648] 62 (0, 0))) ∧ Aside0 (wc.heap[gb655]? = some (.cells #[.int .i64 t649, .int .i64 t650, .int .i64 t651, .int .i64 t652, .bool t653] 62 (0, 0))) ∧ Aside0 (wc.heap[gb663]? = some (.cells #[.int .i64 t656, .int .i64 t657, .int .i64 t658, .int .i64 t659, .int .i64 t660, .bool t661] 91 (0, 0))) ∧ Aside0 (wc.heap[gb671]? = some (.cells #[.int .i64 t664, .int .i64 t665, .int .i64 t666, .int .i64 t667, .int .i64 t668, .bool t669] 91 (0, 0))) ∧ Aside0 (Below w.heap.size w wc))
       case first =>
        have H := HC108.out
        clear HC108
        by_cases c109 : t662 = true
        rotate_left
        ·as_aux_lemma =>
          replace c109 := Bool.eq_false_iff.mpr c109
          subst c109
          rw [if_neg (show ¬ (false = true) by decide)] at H
          have H' := xA H
          clear H
          go_wp2
          go_meet
          case rel => exact ⟨_, H', ⟨by have := HJ11.out; have := HJ46.out; have := HJ72.out; first | omega | exact Nat.le_refl _⟩, ⟨xK BK616.out⟩, ⟨xK BK654.out⟩, ⟨xK BK655.out⟩, ⟨xK BK663.out⟩, ⟨xK BK671.out⟩, ⟨xB5 GE616.out GE654.out GE655.out GE663.out GE671.out HB.out⟩⟩
        subst c109
        rw [if_pos rfl] at H
        obtain ⟨y672, hy672⟩ : ∃ y_ : List Int, y_ = (([5, 0, (-3), 1] : List Int)) := ⟨_, rfl⟩
        replace H : ((impl_ExactChain.f kj72 (([(⟨t644, t645, t646, (⟨t647, t648⟩ : S46)⟩ : S62), (⟨t649, t650, t651, (⟨t652, t653⟩ : S46)⟩ : S62)] : List (S62))) y672).bind fun bt678 => ((impl_ExactSecond.f kj72 t656 t657 t658 t659 t660 t661 0 0 y672).bind fun bt682 => (if bt678.2 = true then (if bt682.2 = true then ((laws_uSame.f kj72 bt678.1 bt682.1).bind fun t686 => (laws_FnPairsRun.j4 kj72 l1 (!t686) t644 t645 t646 t647 t648 t649 t650 t651 t652 t653 t656 t657 t658 t659 t660 t661)) else (laws_FnPairsRun.j4 kj72 l1 false t644 t645 t646 t647 t648 t649 t650 t651 t652 t653 t656 t657 t658 t659 t660 t661)) else (laws_FnPairsRun.j4 kj72 l1 false t644 t645 t646 t647 t648 t649 t650 t651 t652 t653 t656 t657 t658 t659 t660 t661)))) = some r := by first | (rw [hy672]; with_reducible exact H) | (have H2_ := (Option.bind_some _ _).symm.trans H; rw [hy672]; with_reducible exact H2_) | (have H2_ := (Option.bind_some _ _).symm.trans H; with_reducible exact H2_) | with_reducible exact H | (rw [hy672]; exact H) | exact H
        have Ny672 := xA hy672
        clear hy672
        obtain ⟨y675, hy675⟩ : ∃ y_ : List (S62), y_ = (([(⟨t644, t645, t646, (⟨t647, t648⟩ : S46)⟩ : S62), (⟨t649, t650, t651, (⟨t652, t653⟩ : S46)⟩ : S62)] : List (S62))) := ⟨_, rfl⟩
        replace H : ((impl_ExactChain.f kj72 y675 y672).bind fun bt678 => ((impl_ExactSecond.f kj72 t656 t657 t658 t659 t660 t661 0 0 y672).bind fun bt682 => (if bt678.2 = true then (if bt682.2 = true then ((laws_uSame.f kj72 bt678.1 bt682.1).bind fun t686 => (laws_FnPairsRun.j4 kj72 l1 (!t686) t644 t645 t646 t647 t648 t649 t650 t651 t652 t653 t656 t657 t658 t659 t660 t661)) else (laws_FnPairsRun.j4 kj72 l1 false t644 t645 t646 t647 t648 t649 t650 t651 t652 t653 t656 t657 t658 t659 t660 t661)) else (laws_FnPairsRun.j4 kj72 l1 false t644 t645 t646 t647 t648 t649 t650 t651 t652 t653 t656 t657 t658 t659 t660 t661)))) = some r := by first | (rw [hy675]; with_reducible exact H) | (have H2_ := (Option.bind_some _ _).symm.trans H; rw [hy675]; with_reducible exact H2_) | (have H2_ := (Option.bind_some _ _).symm.trans H; with_reducible exact H2_) | with_reducible exact H | (rw [hy675]; exact H) | exact H
        have Ny675 := xA hy675
        clear hy675
        replace H := Option.bind_eq_some_iff.mp H
        obtain ⟨⟨t678, t679⟩, A1100, H⟩ := H
        (try dsimp only at H)
        have A110 := xA A1100
        clear A1100
        replace H := Option.bind_eq_some_iff.mp H
        obtain ⟨⟨t682, t685⟩, A1110, H⟩ := H
        (try dsimp only at H)
        have A111 := xA A1110
        clear A1110
        have HC112 := xA H
        clear H
        go_upto_region 34 with (first | (refine xq rfl ?_; first | (refine xG (some 243) Try.func148 #[.slice Ao126 y675.length co126, .slice Ao127 y672.length co127] ?_; (with_reducible refine (impl_ExactChain.calls kj72 _ _ y675 _ _ y672 t678 t679 _ ?side1 ?side2 ?side3 ?side4 A110.out).mono ?_); (case side1 => exact xC ((Kd.R_reads' HO677.out).2.2)); (case side2 => exact (Kd.R_reads' HO677.out).2.1); (case side3 => exact xC ((Kd.R_reads' HO674.out).2.2)); (case side4 => exact (Kd.R_reads' HO674.out).2.1); rintro e w128 ⟨v680, rfl, ho0, hb⟩; refine ⟨_, rfl, ?_⟩; replace HO677 := xA (Kd.R_below (xR HO677.out) hb); have HO681 := xA (Kd.R_lower (Kd.R_new' ho0 (Kd.R_lt (xR HO674.out))) (below_size (xB5 GE616.out GE654.out GE655.out GE663.out GE671.out HB.out))); replace HO674 := xA (Kd.R_elder' (xR HO674.out) (Kd.R_base ho0) hb); replace BK616 := xkb BK616 hb; replace BK654 := xkb BK654 hb; replace BK655 := xkb BK655 hb; replace BK663 := xkb BK663 hb; replace BK671 := xkb BK671 hb; replace HB := xA (below_step (xB5 GE616.out GE654.out GE655.out GE663.out GE671.out HB.out) hb); (try clear hb); (try clear ho0); have hnb129 := NB663_616.out; have hnc129 := NB616_663.out; have hnb130 := NB663_671.out; have hnc130 := NB671_663.out; obtain ⟨hcz131_0, hcz131_1, hcz131_2, hcz131_3, hcz131_4, hcz131_5, hfz131_0, hfz131_1, hfz131_2, hfz131_3, hfz131_4, hfz131_5⟩ := xZ6 BK663.out) | (refine xG (some 249) Try.func140 #[.agg #[.int .i64 t656, .int .i64 t657, .int .i64 t658, .int .i64 t659, .int .i64 t660, .bool t661], .int .i64 0, .int .i64 0, .slice Ao127 y672.length co127] ?_; (with_reducible refine (impl_ExactSecond.calls kj72 t656 t657 t658 t659 t660 t661 0 0 _ _ y672 t682 t685 _ ?side1 ?side2 A111.out).mono ?_); (case side1 => exact xC ((Kd.R_reads' HO674.out).2.2)); (case side2 => exact (Kd.R_reads' HO674.out).2.1); rintro e w132 ⟨v683, rfl, ho0, hb⟩; refine ⟨_, rfl, ?_⟩; replace HO677 := xA (Kd.R_below (xR HO677.out) hb); have HO684 := xA (Kd.R_lower (Kd.R_new' (Kd.R_new' ho0 (Kd.R_lt (xR HO674.out))) (Kd.R_lt (xR HO681.out))) (below_size (xB5 GE616.out GE654.out GE655.out GE663.out GE671.out HB.out))); replace HO674 := xA (Kd.R_elder' (xR HO674.out) (Kd.R_base ho0) hb); replace HO681 := xA (Kd.R_elder' (xR HO681.out) (Kd.R_base ho0) hb); replace BK616 := xkb BK616 hb; replace BK654 := xkb BK654 hb; replace BK655 := xkb BK655 hb; replace BK663 := xkb BK663 hb; replace BK671 := xkb BK671 hb; replace HB := xA (below_step (xB5 GE616.out GE654.out GE655.out GE663.out GE671.out HB.out) hb); (try clear hb); (try clear ho0))) | ((with_reducible refine gate_dst (N := 237) rfl ?_); refine Kd.R_lit (Kd.int .i64) _ 3 ?hg (N := 237) ?hd (xs := ([5, 0, (-3), 1] : List Int)) (inner := [.int .i64 5, .int .i64 0, .int .i64 (-3), .int .i64 1]) (ok := fun _ => True) (okp := fun _ => True) ?hr ?hp (fun _ hk => hk) trivial (Below.refl _ _) (Nat.le_refl _) (by simp) ?_; (case hd => rfl); (case hg => rfl); (case hr => first | (go_simp; done) | (go_simp; rfl)); (case hp => exact (Reps.one (show Kd.M (Kd.int .i64) _ _ _ 5 [.int .i64 5] from rfl) (Reps.one (show Kd.M (Kd.int .i64) _ _ _ 0 [.int .i64 0] from rfl) (Reps.one (show Kd.M (Kd.int .i64) _ _ _ (-3) [.int .i64 (-3)] from rfl) (Reps.one (show Kd.M (Kd.int .i64) _ _ _ 1 [.int .i64 1] from rfl) (Reps.none _ _)))))); intro v673 w113 ho114 hb hg_ hnew_; clear hg_ hnew_; (first | rw [← Ny672.out] at ho114 | (simp only [Int.reduceToNat] at ho114; rw [← Ny672.out] at ho114)); have HO674 := xA (Kd.R_lower ho114 (below_size (xB5 GE616.out GE654.out GE655.out GE663.out GE671.out HB.out))); replace BK616 := xkb BK616 hb; replace BK654 := xkb BK654 hb; replace BK655 := xkb BK655 hb; replace BK663 := xkb BK663 hb; replace BK671 := xkb BK671 hb; replace HB := xA (below_step (xB5 GE616.out GE654.out GE655.out GE663.out GE671.out HB.out) hb); clear hb ho114; have hnb115 := NB654_616.out; have hnc115 := NB616_654.out; have hnb116 := NB654_655.out; have hnc116 := NB655_654.out; have hnb117 := NB654_663.out; have hnc117 := NB663_654.out; have hnb118 := NB654_671.out; have hnc118 := NB671_654.out; obtain ⟨hcz119_0, hcz119_1, hcz119_2, hcz119_3, hcz119_4, hfz119_0, hfz119_1, hfz119_2, hfz119_3, hfz119_4⟩ := xZ5 BK654.out; have hnb120 := NB655_616.out; have hnc120 := NB616_655.out; have hnb121 := NB655_663.out; have hnc121 := NB663_655.out; have hnb122 := NB655_671.out; have hnc122 := NB671_655.out; obtain ⟨hcz123_0, hcz123_1, hcz123_2, hcz123_3, hcz123_4, hfz123_0, hfz123_1, hfz123_2, hfz123_3, hfz123_4⟩ := xZ5 BK655.out) | ((with_reducible refine gate_dst (N := 241) rfl ?_); refine Kd.R_lit k62 _ 62 ?hg (N := 241) ?hd (xs := ([(⟨t644, t645, t646, (⟨t647, t648⟩ : S46)⟩ : S62), (⟨t649, t650, t651, (⟨t652, t653⟩ : S46)⟩ : S62)] : List (S62))) (inner := [.int .i64 t644, .int .i64 t645, .int .i64 t646, .int .i64 t647, .bool t648, .int .i64 t649, .int .i64 t650, .int .i64 t651, .int .i64 t652, .bool t653]) (ok := fun _ => True) (okp := fun _ => True) ?hr ?hp (fun _ hk => hk) trivial (Below.refl _ _) (Nat.le_refl _) (by simp) ?_; (case hd => rfl); (case hg => rfl); (case hr => first | (go_simp; done) | (go_simp; rfl)); (case hp => exact (Reps.c5 (show Kd.M k62 _ _ _ (⟨t644, t645, t646, (⟨t647, t648⟩ : S46)⟩ : S62) [.int .i64 t644, .int .i64 t645, .int .i64 t646, .int .i64 t647, .bool t648] from (k62_mkM _ _ _ (⟨t644, t645, t646, (⟨t647, t648⟩ : S46)⟩ : S62) )) (Reps.c5 (show Kd.M k62 _ _ _ (⟨t649, t650, t651, (⟨t652, t653⟩ : S46)⟩ : S62) [.int .i64 t649, .int .i64 t650, .int .i64 t651, .int .i64 t652, .bool t653] from (k62_mkM _ _ _ (⟨t649, t650, t651, (⟨t652, t653⟩ : S46)⟩ : S62) )) (Reps.none _ _)))); intro v676 w124 ho125 hb hg_ hnew_; clear hg_ hnew_; (first | rw [← Ny675.out] at ho125 | (simp only [Int.reduceToNat] at ho125; rw [← Ny675.out] at ho125)); replace HO674 := xA (Kd.R_below (xR HO674.out) hb); have HO677 := xA (Kd.R_lower (r_newB (r_newB ho125 (xK BK654.out)) (xK BK655.out)) (below_size (xB5 GE616.out GE654.out GE655.out GE663.out GE671.out HB.out))); replace BK616 := xkb BK616 hb; replace BK654 := xkb BK654 hb; replace BK655 := xkb BK655 hb; replace BK663 := xkb BK663 hb; replace BK671 := xkb BK671 hb; replace HB := xA (below_step (xB5 GE616.out GE654.out GE655.out GE663.out GE671.out HB.out) hb); clear hb ho125; obtain ⟨Ao126, co126, eo126⟩ := Kd.R_slice HO677.out; subst eo126; obtain ⟨Ao127, co127, eo127⟩ := Kd.R_slice HO674.out; subst eo127))
        (try simp only [Act.put, List.setIfInBounds_toArray, List.set_cons_zero, List.set_cons_succ])
        go_cut [261] from 237 to 251 (fun v261 wc => ∃ (kq : Nat) (x261_111 : Bool), v261 = .bool x261_111 ∧ Aside0 (laws_FnPairsRun.j4 kq l1 x261_111 t644 t645 t646 t647 t648 t649 t650 t651 t652 t653 t656 t657 t658 t659 t660 t661 = some r) ∧ Aside0 (kq ≤ kj72) ∧ Aside0 (wc.heap[gb616]? = some (.cells #[.int .i64 t605, .int .i64 t606, .int .i64 t607, .int .i64 t608, .int .i64 t609, .bool t610] 91 (0, 0))) ∧ Aside0 (wc.heap[gb654]? = some (.cells #[.int .i64 t644, .int .i64 t645, .int .i64 t646, .int .i64 t647, .bool t648] 62 (0, 0))) ∧ Aside0 (wc.heap[gb655]? = some (.cells #[.int .i64 t649, .int .i64 t650, .int .i64 t651, .int .i64 t652, .bool t653] 62 (0, 0))) ∧ Aside0 (wc.heap[gb663]? = some (.cells #[.int .i64 t656, .int .i64 t657, .int .i64 t658, .int .i64 t659, .int .i64 t660, .bool t661] 91 (0, 0))) ∧ Aside0 (wc.heap[gb671]? = some (.cells #[.int .i64 t664, .int .i64 t665, .int .i64 t666, .int .i64 t667, .int .i64 t668, .bool t669] 91 (0, 0))) ∧ Aside0 (Below w.heap.size w wc))
        case first => as_aux_lemma =>
         have H := HC112.out
         clear HC112
         by_cases c133 : t679 = true
         rotate_left
         ·as_aux_lemma =>
           replace c133 := Bool.eq_false_iff.mpr c133
           subst c133
           rw [if_neg (show ¬ (false = true) by decide)] at H
           have H' := xA H
           clear H
           go_wp2
           go_meet
           case rel => exact ⟨_, (false), xs, H', ⟨by have := HJ11.out; have := HJ46.out; have := HJ72.out; first | omega | exact Nat.le_refl _⟩, ⟨xK BK616.out⟩, ⟨xK BK654.out⟩, ⟨xK BK655.out⟩, ⟨xK BK663.out⟩, ⟨xK BK671.out⟩, ⟨xB5 GE616.out GE654.out GE655.out GE663.out GE671.out HB.out⟩⟩
         as_aux_lemma =>
          subst c133
          rw [if_pos rfl] at H
          by_cases c134 : t685 = true
          rotate_left
          ·replace c134 := Bool.eq_false_iff.mpr c134
           subst c134
           rw [if_neg (show ¬ (false = true) by decide)] at H
           have H' := xA H
           clear H
           go_wp2
           go_meet
           case rel => exact ⟨_, (false), xs, H', ⟨by have := HJ11.out; have := HJ46.out; have := HJ72.out; first | omega | exact Nat.le_refl _⟩, ⟨xK BK616.out⟩, ⟨xK BK654.out⟩, ⟨xK BK655.out⟩, ⟨xK BK663.out⟩, ⟨xK BK671.out⟩, ⟨xB5 GE616.out GE654.out GE655.out GE663.out GE671.out HB.out⟩⟩
          subst c134
          rw [if_pos rfl] at H
          obtain ⟨t686, A135, H⟩ := xO H
          (try dsimp only at H)
          have H' := xA H
          clear H
          obtain ⟨Ao136, co136, eo136⟩ := Kd.R_slice HO681.out
          subst eo136
          obtain ⟨Ao137, co137, eo137⟩ := Kd.R_slice HO684.out
          subst eo137
          go_wp2_with (first | (go_at_call 44; (with_reducible refine (laws_uSame.calls kj72 _ _ t678 _ _ t682 t686 _ ?side1 ?side2 ?side3 ?side4 A135.out).mono ?_); (case side1 => exact xC ((Kd.R_reads' HO681.out).2.2)); (case side2 => exact (Kd.R_reads' HO681.out).2.1); (case side3 => exact xC ((Kd.R_reads' HO684.out).2.2)); (case side4 => exact (Kd.R_reads' HO684.out).2.1); rintro e w' ⟨rfl, ⟨nd, rfl⟩⟩))
          go_meet
          case rel => exact ⟨_, (!t686), xs, H', ⟨by have := HJ11.out; have := HJ46.out; have := HJ72.out; first | omega | exact Nat.le_refl _⟩, ⟨xK BK616.out⟩, ⟨xK BK654.out⟩, ⟨xK BK655.out⟩, ⟨xK BK663.out⟩, ⟨xK BK671.out⟩, ⟨xB5 GE616.out GE654.out GE655.out GE663.out GE671.out HB.out⟩⟩
        case rest => as_aux_lemma =>
         clear HC112
         try clear c107
         try clear c109
         try clear hcz119_0
         try clear hcz119_1
         try clear hcz119_2
         try clear hcz119_3
         try clear hcz119_4
         try clear hcz123_0
         try clear hcz123_1
         try clear hcz123_2
         try clear hcz123_3
         try clear hcz123_4
         try clear hcz131_0
         try clear hcz131_1
         try clear hcz131_2
         try clear hcz131_3
         try clear hcz131_4
         try clear hcz131_5
         try clear hfz119_0
         try clear hfz119_1
         try clear hfz119_2
         try clear hfz119_3
         try clear hfz119_4
         try clear hfz123_0
         try clear hfz123_1
         try clear hfz123_2
         try clear hfz123_3
         try clear hfz123_4
         try clear hfz131_0
         try clear hfz131_1
         try clear hfz131_2
         try clear hfz131_3
         try clear hfz131_4
         try clear hfz131_5
         obtain ⟨kq, x261_111, rfl, HA, HJ111, BK616, BK654, BK655, BK663, BK671, HB⟩ := hcut
         cases kq with
         | zero => exact absurd HA.out (by simp [laws_FnPairsRun.j4])
         | succ kj111 =>
          have H := HA.out
          clear HA
          simp only [laws_FnPairsRun.j4] at H
          by_cases c138 : x261_111 = true
          ·as_aux_lemma =>
            subst c138
            rw [if_pos rfl] at H
            exact absurd ((Option.some.inj H).trans HRT.out) (by decide)
          replace c138 := Bool.eq_false_iff.mpr c138
          subst c138
          rw [if_neg (show ¬ (false = true) by decide)] at H
          replace H := Option.bind_eq_some_iff.mp H
          obtain ⟨⟨t687, t688⟩, A1390, H⟩ := H
          (try dsimp only at H)
          have A139 := xA A1390
          clear A1390
          replace H := Option.bind_eq_some_iff.mp H
          obtain ⟨⟨t689, t690⟩, A1400, H⟩ := H
          (try dsimp only at H)
          have A140 := xA A1400
          clear A1400
          replace H := Option.bind_eq_some_iff.mp H
          obtain ⟨⟨t691, t692⟩, A1410, H⟩ := H
          (try dsimp only at H)
          have A141 := xA A1410
          clear A1410
          replace H := Option.bind_eq_some_iff.mp H
          obtain ⟨⟨t693, t694⟩, A1420, H⟩ := H
          (try dsimp only at H)
          have A142 := xA A1420
          clear A1420
          by_cases c143 : 0 ≤ t650
          rotate_left
          ·rw [if_neg c143] at H
           exact absurd H (by simp)
          rw [if_pos c143] at H
          have c143b0 := eq_true c143
          have c143b1 : decide (0 ≤ t650) = true := decide_eq_true c143
          clear c143
          obtain ⟨ji144, hji144⟩ : ∃ j_ : Int, (shl .i64 t644 t650) = j_ := ⟨_, rfl⟩
          (first | rw [hji144] at H | simp only [hji144] at H)
          (try rw [hji144] at A139)
          (try rw [hji144] at A140)
          (try rw [hji144] at A141)
          (try rw [hji144] at A142)
          obtain ⟨hji144_, hji144z, hji144y, hji144x⟩ := xSh hji144
          by_cases c145 : 0 ≤ t645
          rotate_left
          ·rw [if_neg c145] at H
           exact absurd H (by simp)
          rw [if_pos c145] at H
          have c145b0 := eq_true c145
          have c145b1 : decide (0 ≤ t645) = true := decide_eq_true c145
          clear c145
          obtain ⟨ji146, hji146⟩ : ∃ j_ : Int, (shl .i64 t649 t645) = j_ := ⟨_, rfl⟩
          (first | rw [hji146] at H | simp only [hji146] at H)
          (try rw [hji146] at A139)
          (try rw [hji146] at A140)
          (try rw [hji146] at A141)
          (try rw [hji146] at A142)
          obtain ⟨hji146_, hji146z, hji146y, hji146x⟩ := xSh hji146
          by_cases c147 : t688 = true
          rotate_left
          ·as_aux_lemma =>
            replace c147 := Bool.eq_false_iff.mpr c147
            subst c147
            rw [if_neg (show ¬ (false = true) by decide)] at H
            exact absurd ((Option.some.inj H).trans HRT.out) (by decide)
          subst c147
          rw [if_pos rfl] at H
          by_cases c148 : t690 = true
          rotate_left
          ·as_aux_lemma =>
            replace c148 := Bool.eq_false_iff.mpr c148
            subst c148
            rw [if_neg (show ¬ (false = true) by decide)] at H
            exact absurd ((Option.some.inj H).trans HRT.out) (by decide)
          subst c148
          rw [if_pos rfl] at H
          by_cases c149 : t692 = true
          rotate_left
          ·as_aux_lemma =>
            replace c149 := Bool.eq_false_iff.mpr c149
            subst c149
            rw [if_neg (show ¬ (false = true) by decide)] at H
            exact absurd ((Option.some.inj H).trans HRT.out) (by decide)
          subst c149
          rw [if_pos rfl] at H
          by_cases c150 : t694 = true
          rotate_left
          ·as_aux_lemma =>
            replace c150 := Bool.eq_false_iff.mpr c150
            subst c150
            rw [if_neg (show ¬ (false = true) by decide)] at H
            exact absurd ((Option.some.inj H).trans HRT.out) (by decide)
          subst c150
          rw [if_pos rfl] at H
          by_cases c151 : t687 = true
          ·subst c151
           rw [if_pos rfl] at H
           by_cases c152 : (t691 != t689) = true
           ·as_aux_lemma =>
             rw [if_pos c152] at H
             have c152b0 : (t691 != t689) = true := c152
             (try (have c152b1 : decide (t691 = t689) = false := by simpa using c152))
             (try (have c152b2 : (t691 == t689) = false := by simpa using c152))
             (try (have c152b3 : ¬ (t691 = t689) := by simpa using c152))
             clear c152
             exact absurd ((Option.some.inj H).trans HRT.out) (by decide)
           rw [if_neg c152] at H
           have c152b0 : (t691 != t689) = false := by simpa using c152
           (try (have c152b1 : decide (t691 = t689) = true := by simpa using c152))
           (try (have c152b2 : (t691 == t689) = true := by simpa using c152))
           clear c152
           by_cases c153 : t693.toList = ([116, 117, 114, 110] : List UInt8)
           ·rw [if_pos c153] at H
            have c153b0 : (t693.toList == ([116, 117, 114, 110] : List UInt8)) = true := beq_iff_eq.mpr c153
            have c153b1 : (t693.toList != ([116, 117, 114, 110] : List UInt8)) = false := bne_eq_false_iff_eq.mpr c153
            clear c153
            exact absurd ((Option.some.inj H).trans HRT.out) (by decide)
           rw [if_neg c153] at H
           have c153b0 : (t693.toList == ([116, 117, 114, 110] : List UInt8)) = false := beq_eq_false_iff_ne.mpr c153
           have c153b1 : (t693.toList != ([116, 117, 114, 110] : List UInt8)) = true := bne_iff_ne.mpr c153
           by_cases c154 : ((t693.toList == ([111, 110, 101] : List UInt8)) != ((ji144) == (ji146))) = true
           ·as_aux_lemma =>
             rw [if_pos c154] at H
             have c154b0 : ((t693.toList == ([111, 110, 101] : List UInt8)) != ((ji144) == (ji146))) = true := c154
             (try (have c154b1 : decide ((t693.toList == ([111, 110, 101] : List UInt8)) = ((ji144) == (ji146))) = false := by simpa using c154))
             (try (have c154b2 : ((t693.toList == ([111, 110, 101] : List UInt8)) == ((ji144) == (ji146))) = false := by simpa using c154))
             (try (have c154b3 : ¬ ((t693.toList == ([111, 110, 101] : List UInt8)) = ((ji144) == (ji146))) := by simpa using c154))
             clear c154
             exact absurd ((Option.some.inj H).trans HRT.out) (by decide)
           rw [if_neg c154] at H
           have c154b0 : ((t693.toList == ([111, 110, 101] : List UInt8)) != ((ji144) == (ji146))) = false := by simpa using c154
           (try (have c154b1 : decide ((t693.toList == ([111, 110, 101] : List UInt8)) = ((ji144) == (ji146))) = true := by simpa using c154))
           (try (have c154b2 : ((t693.toList == ([111, 110, 101] : List UInt8)) == ((ji144) == (ji146))) = true := by simpa using c154))
           clear c154
           have H' := xA H
           clear H
           have hnb155 := NB654_616.out
           have hnc155 := NB616_654.out
           have hnb156 := NB654_655.out
           have hnc156 := NB655_654.out
           have hnb157 := NB654_663.out
           have hnc157 := NB663_654.out
           have hnb158 := NB654_671.out
           have hnc158 := NB671_654.out
           replace hz654 := blk_cell BK654.out; replace hy654 := blk_frozen BK654.out
           try go_wp2_with (first | (refine xq rfl ?_; first | (refine xG (some 264) Try.func95 #[.agg #[.int .i64 t644, .int .i64 t645, .int .i64 t646, .int .i64 t647, .bool t648]] ?_; (with_reducible refine (impl_IsShrinking.calls t644 t645 t646 t647 t648 true true _ A139.out).mono ?_); rintro e w160 ⟨rfl, hb⟩; refine ⟨_, rfl, ?_⟩; replace BK616 := xkb BK616 hb; replace BK654 := xkb BK654 hb; replace BK655 := xkb BK655 hb; replace BK663 := xkb BK663 hb; replace BK671 := xkb BK671 hb; replace HB := xA (below_step (xB5 GE616.out GE654.out GE655.out GE663.out GE671.out HB.out) hb); (try clear hb); have hnb161 := NB655_616.out; have hnc161 := NB616_655.out; have hnb162 := NB655_663.out; have hnc162 := NB663_655.out; have hnb163 := NB655_671.out; have hnc163 := NB671_655.out; replace hz655 := blk_cell BK655.out; replace hy655 := blk_frozen BK655.out) | (refine xG (some 269) Try.func95 #[.agg #[.int .i64 t649, .int .i64 t650, .int .i64 t651, .int .i64 t652, .bool t653]] ?_; (with_reducible refine (impl_IsShrinking.calls t649 t650 t651 t652 t653 t689 true _ A140.out).mono ?_); rintro e w165 ⟨rfl, hb⟩; refine ⟨_, rfl, ?_⟩; replace BK616 := xkb BK616 hb; replace BK654 := xkb BK654 hb; replace BK655 := xkb BK655 hb; replace BK663 := xkb BK663 hb; replace BK671 := xkb BK671 hb; replace HB := xA (below_step (xB5 GE616.out GE654.out GE655.out GE663.out GE671.out HB.out) hb); (try clear hb); have hnb166 := NB663_616.out; have hnc166 := NB616_663.out; have hnb167 := NB663_671.out; have hnc167 := NB671_663.out; replace hz663 := blk_cell BK663.out; replace hy663 := blk_frozen BK663.out) | (refine xG (some 274) Try.func149 #[.agg #[.int .i64 t656, .int .i64 t657, .int .i64 t658, .int .i64 t659, .int .i64 t660, .bool t661]] ?_; (with_reducible refine (impl_IsInTriangle.calls t656 t657 t658 t659 t660 t661 t691 true _ A141.out).mono ?_); rintro e w169 ⟨rfl, hb⟩; refine ⟨_, rfl, ?_⟩; replace BK616 := xkb BK616 hb; replace BK654 := xkb BK654 hb; replace BK655 := xkb BK655 hb; replace BK663 := xkb BK663 hb; replace BK671 := xkb BK671 hb; replace HB := xA (below_step (xB5 GE616.out GE654.out GE655.out GE663.out GE671.out HB.out) hb); (try clear hb); replace hz663 := blk_cell BK663.out; replace hy663 := blk_frozen BK663.out) | (refine xG (some 279) Try.func150 #[.agg #[.int .i64 t656, .int .i64 t657, .int .i64 t658, .int .i64 t659, .int .i64 t660, .bool t661]] ?_; (with_reducible refine (impl_RootsOf.calls t656 t657 t658 t659 t660 t661 t693 true _ A142.out).mono ?_); rintro e w171 ⟨rfl, hb⟩; refine ⟨_, rfl, ?_⟩; replace BK616 := xkb BK616 hb; replace BK654 := xkb BK654 hb; replace BK655 := xkb BK655 hb; replace BK663 := xkb BK663 hb; replace BK671 := xkb BK671 hb; replace HB := xA (below_step (xB5 GE616.out GE654.out GE655.out GE663.out GE671.out HB.out) hb); (try clear hb))))
           replace BK616 := xA (blk_drew BK616.out)
           replace BK654 := xA (blk_drew BK654.out)
           replace BK655 := xA (blk_drew BK655.out)
           replace BK663 := xA (blk_drew BK663.out)
           replace BK671 := xA (blk_drew BK671.out)
           replace HB := xA (below_drew1 HB.out)
           refine start_ (n := 12) (S := fun w' => w'.cell? ⟨gb654, 0, none⟩ = some (.int .i64 t644) ∧ w'.cell? ⟨gb654, 1, none⟩ = some (.int .i64 t645) ∧ w'.cell? ⟨gb654, 2, none⟩ = some (.int .i64 t646) ∧ w'.cell? ⟨gb654, 3, none⟩ = some (.int .i64 t647) ∧ w'.cell? ⟨gb654, 4, none⟩ = some (.bool t648) ∧ w'.cell? ⟨gb655, 0, none⟩ = some (.int .i64 t649) ∧ w'.cell? ⟨gb655, 1, none⟩ = some (.int .i64 t650) ∧ w'.cell? ⟨gb655, 2, none⟩ = some (.int .i64 t651) ∧ w'.cell? ⟨gb655, 3, none⟩ = some (.int .i64 t652) ∧ w'.cell? ⟨gb655, 4, none⟩ = some (.bool t653)) (ds := []) x20a0 (by kernel_rfl) rfl rfl ⟨(blk_cell BK654.out 0).trans rfl, (blk_cell BK654.out 1).trans rfl, (blk_cell BK654.out 2).trans rfl, (blk_cell BK654.out 3).trans rfl, (blk_cell BK654.out 4).trans rfl, (blk_cell BK655.out 0).trans rfl, (blk_cell BK655.out 1).trans rfl, (blk_cell BK655.out 2).trans rfl, (blk_cell BK655.out 3).trans rfl, (blk_cell BK655.out 4).trans rfl⟩ (fun hHeld => ?_); refine with_tabW laws_FnPairsRun.tab40 laws_FnPairsRun.bits40 (fun HT_ HW_ => ?_)
           generalize w171.drew = w172 at BK616 BK654 BK655 BK663 BK671 HB hHeld ⊢
           refine xP 0 282 x20a1 ?_
           refine xP 2 284 x20a2 ?_
           refine xP 5 287 x20a3 ?_
           refine xP 7 289 x20a4 ?_
           refine xT10 hHeld 1 283 x20a5 ?_
           refine xT10 hHeld 3 285 x20a6 ?_
           refine xP 4 286 x20a7 ?_
           refine xT10 hHeld 6 288 x20a8 ?_
           refine xT10 hHeld 8 290 x20a9 ?_
           refine xP 9 291 x20a10 ?_
           refine xP 10 292 x20a11 ?_
           refine xP 11 46 x20a12 ?_
           refine xDn ?_
           try go_wp2
           go_meet
           case rel => exact ⟨_, H', ⟨by have := HJ11.out; have := HJ46.out; have := HJ72.out; have := HJ111.out; first | omega | exact Nat.le_refl _⟩, ⟨xK BK616.out⟩, ⟨xK BK654.out⟩, ⟨xK BK655.out⟩, ⟨xK BK663.out⟩, ⟨xK BK671.out⟩, ⟨xB5 GE616.out GE654.out GE655.out GE663.out GE671.out HB.out⟩⟩
          replace c151 := Bool.eq_false_iff.mpr c151
          subst c151
          rw [if_neg (show ¬ (false = true) by decide)] at H
          by_cases c173 : (t691 != false) = true
          ·as_aux_lemma =>
            rw [if_pos c173] at H
            have c173b0 : (t691 != false) = true := c173
            (try (have c173b1 : decide (t691 = false) = false := by simpa using c173))
            (try (have c173b2 : (t691 == false) = false := by simpa using c173))
            (try (have c173b3 : ¬ (t691 = false) := by simpa using c173))
            clear c173
            exact absurd ((Option.some.inj H).trans HRT.out) (by decide)
          rw [if_neg c173] at H
          have c173b0 : (t691 != false) = false := by simpa using c173
          (try (have c173b1 : decide (t691 = false) = true := by simpa using c173))
          (try (have c173b2 : (t691 == false) = true := by simpa using c173))
          clear c173
          by_cases c174 : t693.toList = ([116, 117, 114, 110] : List UInt8)
          ·rw [if_pos c174] at H
           have c174b0 : (t693.toList == ([116, 117, 114, 110] : List UInt8)) = true := beq_iff_eq.mpr c174
           have c174b1 : (t693.toList != ([116, 117, 114, 110] : List UInt8)) = false := bne_eq_false_iff_eq.mpr c174
           clear c174
           exact absurd ((Option.some.inj H).trans HRT.out) (by decide)
          rw [if_neg c174] at H
          have c174b0 : (t693.toList == ([116, 117, 114, 110] : List UInt8)) = false := beq_eq_false_iff_ne.mpr c174
          have c174b1 : (t693.toList != ([116, 117, 114, 110] : List UInt8)) = true := bne_iff_ne.mpr c174
          by_cases c175 : ((t693.toList == ([111, 110, 101] : List UInt8)) != ((ji144) == (ji146))) = true
          ·as_aux_lemma =>
            rw [if_pos c175] at H
            have c175b0 : ((t693.toList == ([111, 110, 101] : List UInt8)) != ((ji144) == (ji146))) = true := c175
            (try (have c175b1 : decide ((t693.toList == ([111, 110, 101] : List UInt8)) = ((ji144) == (ji146))) = false := by simpa using c175))
            (try (have c175b2 : ((t693.toList == ([111, 110, 101] : List UInt8)) == ((ji144) == (ji146))) = false := by simpa using c175))
            (try (have c175b3 : ¬ ((t693.toList == ([111, 110, 101] : List UInt8)) = ((ji144) == (ji146))) := by simpa using c175))
            clear c175
            exact absurd ((Option.some.inj H).trans HRT.out) (by decide)
          rw [if_neg c175] at H
          have c175b0 : ((t693.toList == ([111, 110, 101] : List UInt8)) != ((ji144) == (ji146))) = false := by simpa using c175
          (try (have c175b1 : decide ((t693.toList == ([111, 110, 101] : List UInt8)) = ((ji144) == (ji146))) = true := by simpa using c175))
          (try (have c175b2 : ((t693.toList == ([111, 110, 101] : List UInt8)) == ((ji144) == (ji146))) = true := by simpa using c175))
          clear c175
          have H' := xA H
          clear H
          have hnb176 := NB654_616.out
          have hnc176 := NB616_654.out
          have hnb177 := NB654_655.out
          have hnc177 := NB655_654.out
          have hnb178 := NB654_663.out
          have hnc178 := NB663_654.out
          have hnb179 := NB654_671.out
          have hnc179 := NB671_654.out
          replace hz654 := blk_cell BK654.out; replace hy654 := blk_frozen BK654.out
          try go_wp2_with (first | (refine xq rfl ?_; first | (refine xG (some 264) Try.func95 #[.agg #[.int .i64 t644, .int .i64 t645, .int .i64 t646, .int .i64 t647, .bool t648]] ?_; (with_reducible refine (impl_IsShrinking.calls t644 t645 t646 t647 t648 false true _ A139.out).mono ?_); rintro e w181 ⟨rfl, hb⟩; refine ⟨_, rfl, ?_⟩; replace BK616 := xkb BK616 hb; replace BK654 := xkb BK654 hb; replace BK655 := xkb BK655 hb; replace BK663 := xkb BK663 hb; replace BK671 := xkb BK671 hb; replace HB := xA (below_step (xB5 GE616.out GE654.out GE655.out GE663.out GE671.out HB.out) hb); (try clear hb); have hnb182 := NB655_616.out; have hnc182 := NB616_655.out; have hnb183 := NB655_663.out; have hnc183 := NB663_655.out; have hnb184 := NB655_671.out; have hnc184 := NB671_655.out; replace hz655 := blk_cell BK655.out; replace hy655 := blk_frozen BK655.out) | (refine xG (some 269) Try.func95 #[.agg #[.int .i64 t649, .int .i64 t650, .int .i64 t651, .int .i64 t652, .bool t653]] ?_; (with_reducible refine (impl_IsShrinking.calls t649 t650 t651 t652 t653 t689 true _ A140.out).mono ?_); rintro e w186 ⟨rfl, hb⟩; refine ⟨_, rfl, ?_⟩; replace BK616 := xkb BK616 hb; replace BK654 := xkb BK654 hb; replace BK655 := xkb BK655 hb; replace BK663 := xkb BK663 hb; replace BK671 := xkb BK671 hb; replace HB := xA (below_step (xB5 GE616.out GE654.out GE655.out GE663.out GE671.out HB.out) hb); (try clear hb); have hnb187 := NB663_616.out; have hnc187 := NB616_663.out; have hnb188 := NB663_671.out; have hnc188 := NB671_663.out; replace hz663 := blk_cell BK663.out; replace hy663 := blk_frozen BK663.out) | (refine xG (some 274) Try.func149 #[.agg #[.int .i64 t656, .int .i64 t657, .int .i64 t658, .int .i64 t659, .int .i64 t660, .bool t661]] ?_; (with_reducible refine (impl_IsInTriangle.calls t656 t657 t658 t659 t660 t661 t691 true _ A141.out).mono ?_); rintro e w190 ⟨rfl, hb⟩; refine ⟨_, rfl, ?_⟩; replace BK616 := xkb BK616 hb; replace BK654 := xkb BK654 hb; replace BK655 := xkb BK655 hb; replace BK663 := xkb BK663 hb; replace BK671 := xkb BK671 hb; replace HB := xA (below_step (xB5 GE616.out GE654.out GE655.out GE663.out GE671.out HB.out) hb); (try clear hb); replace hz663 := blk_cell BK663.out; replace hy663 := blk_frozen BK663.out) | (refine xG (some 279) Try.func150 #[.agg #[.int .i64 t656, .int .i64 t657, .int .i64 t658, .int .i64 t659, .int .i64 t660, .bool t661]] ?_; (with_reducible refine (impl_RootsOf.calls t656 t657 t658 t659 t660 t661 t693 true _ A142.out).mono ?_); rintro e w192 ⟨rfl, hb⟩; refine ⟨_, rfl, ?_⟩; replace BK616 := xkb BK616 hb; replace BK654 := xkb BK654 hb; replace BK655 := xkb BK655 hb; replace BK663 := xkb BK663 hb; replace BK671 := xkb BK671 hb; replace HB := xA (below_step (xB5 GE616.out GE654.out GE655.out GE663.out GE671.out HB.out) hb); (try clear hb))))
          replace BK616 := xA (blk_drew BK616.out)
          replace BK654 := xA (blk_drew BK654.out)
          replace BK655 := xA (blk_drew BK655.out)
          replace BK663 := xA (blk_drew BK663.out)
          replace BK671 := xA (blk_drew BK671.out)
          replace HB := xA (below_drew1 HB.out)
          refine start_ (n := 12) (S := fun w' => w'.cell? ⟨gb654, 0, none⟩ = some (.int .i64 t644) ∧ w'.cell? ⟨gb654, 1, none⟩ = some (.int .i64 t645) ∧ w'.cell? ⟨gb654, 2, none⟩ = some (.int .i64 t646) ∧ w'.cell? ⟨gb654, 3, none⟩ = some (.int .i64 t647) ∧ w'.cell? ⟨gb654, 4, none⟩ = some (.bool t648) ∧ w'.cell? ⟨gb655, 0, none⟩ = some (.int .i64 t649) ∧ w'.cell? ⟨gb655, 1, none⟩ = some (.int .i64 t650) ∧ w'.cell? ⟨gb655, 2, none⟩ = some (.int .i64 t651) ∧ w'.cell? ⟨gb655, 3, none⟩ = some (.int .i64 t652) ∧ w'.cell? ⟨gb655, 4, none⟩ = some (.bool t653)) (ds := []) x20a0 (by kernel_rfl) rfl rfl ⟨(blk_cell BK654.out 0).trans rfl, (blk_cell BK654.out 1).trans rfl, (blk_cell BK654.out 2).trans rfl, (blk_cell BK654.out 3).trans rfl, (blk_cell BK654.out 4).trans rfl, (blk_cell BK655.out 0).trans rfl, (blk_cell BK655.out 1).trans rfl, (blk_cell BK655.out 2).trans rfl, (blk_cell BK655.out 3).trans rfl, (blk_cell BK655.out 4).trans rfl⟩ (fun hHeld => ?_); refine with_tabW laws_FnPairsRun.tab40 laws_FnPairsRun.bits40 (fun HT_ HW_ => ?_)
          generalize w192.drew = w193 at BK616 BK654 BK655 BK663 BK671 HB hHeld ⊢
          refine xP 0 282 x20a1 ?_
          refine xP 2 284 x20a2 ?_
          refine xP 5 287 x20a3 ?_
          refine xP 7 289 x20a4 ?_
          refine xT10 hHeld 1 283 x20a5 ?_
          refine xT10 hHeld 3 285 x20a6 ?_
          refine xP 4 286 x20a7 ?_
          refine xT10 hHeld 6 288 x20a8 ?_
          refine xT10 hHeld 8 290 x20a9 ?_
          refine xP 9 291 x20a10 ?_
          refine xP 10 292 x20a11 ?_
          refine xP 11 46 x20a12 ?_
          refine xDn ?_
          try go_wp2
          go_meet
          case rel => exact ⟨_, H', ⟨by have := HJ11.out; have := HJ46.out; have := HJ72.out; have := HJ111.out; first | omega | exact Nat.le_refl _⟩, ⟨xK BK616.out⟩, ⟨xK BK654.out⟩, ⟨xK BK655.out⟩, ⟨xK BK663.out⟩, ⟨xK BK671.out⟩, ⟨xB5 GE616.out GE654.out GE655.out GE663.out GE671.out HB.out⟩⟩
       case rest => as_aux_lemma =>
        clear HC108
        obtain ⟨kq, HA, HJ107, BK616, BK654, BK655, BK663, BK671, HB⟩ := hcut
        cases kq with
        | zero => exact absurd HA.out (by simp [laws_FnPairsRun.j5])
        | succ kj107 =>
         have H := HA.out
         clear HA
         simp only [laws_FnPairsRun.j5] at H
         replace H := Option.bind_eq_some_iff.mp H
         obtain ⟨⟨t695, t696, t697, t698, t699, t700⟩, A1940, H⟩ := H
         (try dsimp only at H)
         have A194 := xA A1940
         clear A1940
         replace H := Option.bind_eq_some_iff.mp H
         obtain ⟨⟨t702, t703⟩, A1950, H⟩ := H
         (try dsimp only at H)
         have A195 := xA A1950
         clear A1950
         replace H := Option.bind_eq_some_iff.mp H
         obtain ⟨⟨t704, t705⟩, A1960, H⟩ := H
         (try dsimp only at H)
         have A196 := xA A1960
         clear A1960
         replace H := Option.bind_eq_some_iff.mp H
         obtain ⟨⟨t706, t707⟩, A1970, H⟩ := H
         (try dsimp only at H)
         have A197 := xA A1970
         clear A1970
         replace H := Option.bind_eq_some_iff.mp H
         obtain ⟨⟨t708, t709⟩, A1980, H⟩ := H
         (try dsimp only at H)
         have A198 := xA A1980
         clear A1980
         replace H := Option.bind_eq_some_iff.mp H
         obtain ⟨⟨t710, t711, t712, t713, t714, t715, t716, t717, t718⟩, A1990, H⟩ := H
         (try dsimp only at H)
         have A199 := xA A1990
         clear A1990
         replace H := Option.bind_eq_some_iff.mp H
         obtain ⟨⟨t720, t721⟩, A2000, H⟩ := H
         (try dsimp only at H)
         have A200 := xA A2000
         clear A2000
         replace H := Option.bind_eq_some_iff.mp H
         obtain ⟨⟨t722, t723⟩, A2010, H⟩ := H
         (try dsimp only at H)
         have A201 := xA A2010
         clear A2010
         by_cases c202 : (t703 == t705) = true
         rotate_left
         ·as_aux_lemma =>
           rw [if_neg c202] at H
           have c202b0 : (t703 == t705) = false := by simpa using c202
           (try (have c202b1 : decide (t703 = t705) = false := by simpa using c202))
           (try (have c202b2 : (t703 == t705) = false := by simpa using c202))
           (try (have c202b3 : ¬ (t703 = t705) := by simpa using c202))
           clear c202
           exact absurd ((Option.some.inj H).trans HRT.out) (by decide)

         rw [if_pos c202] at H
         have c202b0 : (t703 == t705) = true := c202
         (try (have c202b1 : decide (t703 = t705) = true := by simpa using c202))
         (try (have c202b2 : (t703 == t705) = true := by simpa using c202))
         clear c202
         by_cases c203 : (t702 == t704) = true
         rotate_left
         ·as_aux_lemma =>
           rw [if_neg c203] at H
           have c203b0 : (t702 == t704) = false := by simpa using c203
           (try (have c203b1 : decide (t702 = t704) = false := by simpa using c203))
           (try (have c203b2 : (t702 == t704) = false := by simpa using c203))
           (try (have c203b3 : ¬ (t702 = t704) := by simpa using c203))
           clear c203
           exact absurd ((Option.some.inj H).trans HRT.out) (by decide)
         rw [if_pos c203] at H
         have c203b0 : (t702 == t704) = true := c203
         (try (have c203b1 : decide (t702 = t704) = true := by simpa using c203))
         (try (have c203b2 : (t702 == t704) = true := by simpa using c203))
         clear c203
         by_cases c204 : (t707 == t709) = true
         rotate_left
         ·as_aux_lemma =>
           rw [if_neg c204] at H
           have c204b0 : (t707 == t709) = false := by simpa using c204
           (try (have c204b1 : decide (t707 = t709) = false := by simpa using c204))
           (try (have c204b2 : (t707 == t709) = false := by simpa using c204))
           (try (have c204b3 : ¬ (t707 = t709) := by simpa using c204))
           clear c204
           exact absurd ((Option.some.inj H).trans HRT.out) (by decide)
         rw [if_pos c204] at H
         have c204b0 : (t707 == t709) = true := c204
         (try (have c204b1 : decide (t707 = t709) = true := by simpa using c204))
         (try (have c204b2 : (t707 == t709) = true := by simpa using c204))
         clear c204
         by_cases c205 : t706.toList = t708.toList
         rotate_left
         ·rw [if_neg c205] at H
          have c205b0 : (t706.toList == t708.toList) = false := beq_eq_false_iff_ne.mpr c205
          have c205b1 : (t706.toList != t708.toList) = true := bne_iff_ne.mpr c205
          exact absurd ((Option.some.inj H).trans HRT.out) (by decide)
         rw [if_pos c205] at H
         have c205b0 : (t706.toList == t708.toList) = true := beq_iff_eq.mpr c205
         have c205b1 : (t706.toList != t708.toList) = false := bne_eq_false_iff_eq.mpr c205
         clear c205
         obtain ⟨t724, A206, H⟩ := xO H
         (try dsimp only at H)
         by_cases c207 : (t703 == t724) = true
         rotate_left
         ·as_aux_lemma =>
           rw [if_neg c207] at H
           have c207b0 : (t703 == t724) = false := by simpa using c207
           (try (have c207b1 : decide (t703 = t724) = false := by simpa using c207))
           (try (have c207b2 : (t703 == t724) = false := by simpa using c207))
           (try (have c207b3 : ¬ (t703 = t724) := by simpa using c207))
           clear c207
           exact absurd ((Option.some.inj H).trans HRT.out) (by decide)
         rw [if_pos c207] at H
         have c207b0 : (t703 == t724) = true := c207
         (try (have c207b1 : decide (t703 = t724) = true := by simpa using c207))
         (try (have c207b2 : (t703 == t724) = true := by simpa using c207))
         clear c207
         replace H := Option.bind_eq_some_iff.mp H
         obtain ⟨t725, A2080, H⟩ := H
         (try dsimp only at H)
         have A208 := xA A2080
         obtain rfl : t724 = t725 := Option.some.inj (A206.out.symm.trans A208.out)
         clear A2080
         obtain ⟨t726, A209, H⟩ := xO H
         (try dsimp only at H)
         by_cases c210 : (t724 == t726) = true
         rotate_left
         ·as_aux_lemma =>
           rw [if_neg c210] at H
           have c210b0 : (t724 == t726) = false := by simpa using c210
           (try (have c210b1 : decide (t724 = t726) = false := by simpa using c210))
           (try (have c210b2 : (t724 == t726) = false := by simpa using c210))
           (try (have c210b3 : ¬ (t724 = t726) := by simpa using c210))
           clear c210
           exact absurd ((Option.some.inj H).trans HRT.out) (by decide)
         rw [if_pos c210] at H
         have c210b0 : (t724 == t726) = true := c210
         (try (have c210b1 : decide (t724 = t726) = true := by simpa using c210))
         (try (have c210b2 : (t724 == t726) = true := by simpa using c210))
         clear c210
         by_cases c211 : (t721 == t723) = true
         rotate_left
         ·as_aux_lemma =>
           rw [if_neg c211] at H
           have c211b0 : (t721 == t723) = false := by simpa using c211
           (try (have c211b1 : decide (t721 = t723) = false := by simpa using c211))
           (try (have c211b2 : (t721 == t723) = false := by simpa using c211))
           (try (have c211b3 : ¬ (t721 = t723) := by simpa using c211))
           clear c211
           exact absurd ((Option.some.inj H).trans HRT.out) (by decide)
         rw [if_pos c211] at H
         have c211b0 : (t721 == t723) = true := c211
         (try (have c211b1 : decide (t721 = t723) = true := by simpa using c211))
         (try (have c211b2 : (t721 == t723) = true := by simpa using c211))
         clear c211
         obtain rfl := Option.some.inj H
         try go_wp2_with (first | (refine xq rfl ?_; first | (refine xG (some 326) Try.func151 #[.slice A1 l1.length c1] ?_; (with_reducible refine (spec_DrawIsInTriangle.calls kj107 _ _ l1 t695 t696 t697 t698 t699 t700 _ ?side1 ?side2 A194.out).mono ?_); (case side1 => exact xC (Kd.C_below HR1.out HB.out)); (case side2 => exact HC1.out); rintro e w212 ⟨rfl, hb⟩; refine ⟨_, rfl, ?_⟩; replace BK616 := xkb BK616 hb; replace BK654 := xkb BK654 hb; replace BK655 := xkb BK655 hb; replace BK663 := xkb BK663 hb; replace BK671 := xkb BK671 hb; replace HB := xA (below_step (xB5 GE616.out GE654.out GE655.out GE663.out GE671.out HB.out) hb); (try clear hb)) | (refine xG (some 329) Try.func149 #[.agg #[.int .i64 t695, .int .i64 t696, .int .i64 t697, .int .i64 t698, .int .i64 t699, .bool t700]] ?_; (with_reducible refine (impl_IsInTriangle.calls t695 t696 t697 t698 t699 t700 t702 t703 _ A195.out).mono ?_); rintro e w220 ⟨rfl, hb⟩; refine ⟨_, rfl, ?_⟩; replace BK616 := xkb BK616 hb; replace BK654 := xkb BK654 hb; replace BK655 := xkb BK655 hb; replace BK663 := xkb BK663 hb; replace BK671 := xkb BK671 hb; replace BK701 := xkb BK701 hb; replace HB := xA (below_step (xB6 GE616.out GE654.out GE655.out GE663.out GE671.out GE701.out HB.out) hb); (try clear hb); replace hz701 := blk_cell BK701.out; replace hy701 := blk_frozen BK701.out) | (refine xG (some 334) Try.func152 #[.agg #[.int .i64 t695, .int .i64 t696, .int .i64 t697, .int .i64 t698, .int .i64 t699, .bool t700]] ?_; (with_reducible refine (spec_IsInTriangle.calls t695 t696 t697 t698 t699 t700 t704 t705 _ A196.out).mono ?_); rintro e w222 ⟨rfl, hb⟩; refine ⟨_, rfl, ?_⟩; replace BK616 := xkb BK616 hb; replace BK654 := xkb BK654 hb; replace BK655 := xkb BK655 hb; replace BK663 := xkb BK663 hb; replace BK671 := xkb BK671 hb; replace BK701 := xkb BK701 hb; replace HB := xA (below_step (xB6 GE616.out GE654.out GE655.out GE663.out GE671.out GE701.out HB.out) hb); (try clear hb); replace hz701 := blk_cell BK701.out; replace hy701 := blk_frozen BK701.out) | (refine xG (some 339) Try.func150 #[.agg #[.int .i64 t695, .int .i64 t696, .int .i64 t697, .int .i64 t698, .int .i64 t699, .bool t700]] ?_; (with_reducible refine (impl_RootsOf.calls t695 t696 t697 t698 t699 t700 t706 t707 _ A197.out).mono ?_); rintro e w224 ⟨rfl, hb⟩; refine ⟨_, rfl, ?_⟩; replace BK616 := xkb BK616 hb; replace BK654 := xkb BK654 hb; replace BK655 := xkb BK655 hb; replace BK663 := xkb BK663 hb; replace BK671 := xkb BK671 hb; replace BK701 := xkb BK701 hb; replace HB := xA (below_step (xB6 GE616.out GE654.out GE655.out GE663.out GE671.out GE701.out HB.out) hb); (try clear hb); replace hz701 := blk_cell BK701.out; replace hy701 := blk_frozen BK701.out) | (refine xG (some 344) Try.func153 #[.agg #[.int .i64 t695, .int .i64 t696, .int .i64 t697, .int .i64 t698, .int .i64 t699, .bool t700]] ?_; (with_reducible refine (spec_RootsOf.calls t695 t696 t697 t698 t699 t700 t708 t709 _ A198.out).mono ?_); rintro e w226 ⟨rfl, hb⟩; refine ⟨_, rfl, ?_⟩; replace BK616 := xkb BK616 hb; replace BK654 := xkb BK654 hb; replace BK655 := xkb BK655 hb; replace BK663 := xkb BK663 hb; replace BK671 := xkb BK671 hb; replace BK701 := xkb BK701 hb; replace HB := xA (below_step (xB6 GE616.out GE654.out GE655.out GE663.out GE671.out GE701.out HB.out) hb); (try clear hb)) | (refine xG (some 349) Try.func154 #[.slice A1 l1.length c1] ?_; (with_reducible refine (spec_DrawSecondStep.calls kj107 _ _ l1 t710 t711 t712 t713 t714 t715 t716 t717 t718 _ ?side1 ?side2 A199.out).mono ?_); (case side1 => exact xC (Kd.C_below HR1.out HB.out)); (case side2 => exact HC1.out); rintro e w227 ⟨rfl, hb⟩; refine ⟨_, rfl, ?_⟩; replace BK616 := xkb BK616 hb; replace BK654 := xkb BK654 hb; replace BK655 := xkb BK655 hb; replace BK663 := xkb BK663 hb; replace BK671 := xkb BK671 hb; replace BK701 := xkb BK701 hb; replace HB := xA (below_step (xB6 GE616.out GE654.out GE655.out GE663.out GE671.out GE701.out HB.out) hb); (try clear hb)) | (refine xG (some 359) Try.func144 #[.agg #[.int .i64 t710, .int .i64 t711, .int .i64 t712, .int .i64 t713, .int .i64 t714, .bool t715], .int .i64 t716, .int .i64 t717, .int .i64 t718] ?_; (with_reducible refine (impl_SecondStep.calls kj107 t710 t711 t712 t713 t714 t715 t716 t717 t718 t720 t721 _ A200.out).mono ?_); rintro e w236 ⟨rfl, hb⟩; refine ⟨_, rfl, ?_⟩; replace BK616 := xkb BK616 hb; replace BK654 := xkb BK654 hb; replace BK655 := xkb BK655 hb; replace BK663 := xkb BK663 hb; replace BK671 := xkb BK671 hb; replace BK701 := xkb BK701 hb; replace BK719 := xkb BK719 hb; replace HB := xA (below_step (xB7 GE616.out GE654.out GE655.out GE663.out GE671.out GE701.out GE719.out HB.out) hb); (try clear hb); replace hz719 := blk_cell BK719.out; replace hy719 := blk_frozen BK719.out) | (refine xG (some 367) Try.func155 #[.agg #[.int .i64 t710, .int .i64 t711, .int .i64 t712, .int .i64 t713, .int .i64 t714, .bool t715], .int .i64 t716, .int .i64 t717, .int .i64 t718] ?_; (with_reducible refine (spec_SecondStep.calls kj107 t710 t711 t712 t713 t714 t715 t716 t717 t718 t722 t723 _ A201.out).mono ?_); rintro e w238 ⟨rfl, hb⟩; refine ⟨_, rfl, ?_⟩; replace BK616 := xkb BK616 hb; replace BK654 := xkb BK654 hb; replace BK655 := xkb BK655 hb; replace BK663 := xkb BK663 hb; replace BK671 := xkb BK671 hb; replace BK701 := xkb BK701 hb; replace BK719 := xkb BK719 hb; replace HB := xA (below_step (xB7 GE616.out GE654.out GE655.out GE663.out GE671.out GE701.out GE719.out HB.out) hb); (try clear hb))) | (refine xg 47 rfl ?_; refine xV 47 #[.int .i64 0, .int .i64 0, .int .i64 0, .int .i64 0, .int .i64 0, .bool false] 91 ?_; intro gb701 hg w213 hbox hb; have BK701 := xA (hbox); have GW701 := xgw hg (below_size (xB5 GE616.out GE654.out GE655.out GE663.out GE671.out HB.out)); have GE701 := GW701; replace HB := xA (below_step (xB5 GE616.out GE654.out GE655.out GE663.out GE671.out HB.out) hb); have NB616_701 := xnl hg BK616; have NB701_616 := xng hg BK616; replace BK616 := xkb BK616 hb; have NB654_701 := xnl hg BK654; have NB701_654 := xng hg BK654; replace BK654 := xkb BK654 hb; have NB655_701 := xnl hg BK655; have NB701_655 := xng hg BK655; replace BK655 := xkb BK655 hb; have NB663_701 := xnl hg BK663; have NB701_663 := xng hg BK663; replace BK663 := xkb BK663 hb; have NB671_701 := xnl hg BK671; have NB701_671 := xng hg BK671; replace BK671 := xkb BK671 hb; clear hb hbox hg; have hnb214 := NB701_616.out; have hnc214 := NB616_701.out; have hnb215 := NB701_654.out; have hnc215 := NB654_701.out; have hnb216 := NB701_655.out; have hnc216 := NB655_701.out; have hnb217 := NB701_663.out; have hnc217 := NB663_701.out; have hnb218 := NB701_671.out; have hnc218 := NB671_701.out; replace hz701 := blk_cell BK701.out; replace hy701 := blk_frozen BK701.out) | ((with_reducible refine gate_store (t := 91) (p := 47) rfl ?_); refine xS6 (ty := 91) (v0 := .int .i64 t695) (v1 := .int .i64 t696) (v2 := .int .i64 t697) (v3 := .int .i64 t698) (v4 := .int .i64 t699) (v5 := .bool t700) 47 326 (xK BK701.out) ?_; intro wS701 hbk hk hB; replace HB := xA (hB (xB HB.out) GE701.out); replace BK616 := xkk hk BK616 NB616_701; replace BK654 := xkk hk BK654 NB654_701; replace BK655 := xkk hk BK655 NB655_701; replace BK663 := xkk hk BK663 NB663_701; replace BK671 := xkk hk BK671 NB671_701; replace BK701 := xA hbk; clear hbk hk hB; replace hz701 := blk_cell BK701.out; replace hy701 := blk_frozen BK701.out; replace hz616 := blk_cell BK616.out; replace hy616 := blk_frozen BK616.out; replace hz654 := blk_cell BK654.out; replace hy654 := blk_frozen BK654.out; replace hz655 := blk_cell BK655.out; replace hy655 := blk_frozen BK655.out; replace hz663 := blk_cell BK663.out; replace hy663 := blk_frozen BK663.out; replace hz671 := blk_cell BK671.out; replace hy671 := blk_frozen BK671.out) | (refine xg 56 rfl ?_; refine xV 56 #[.int .i64 0, .int .i64 0, .int .i64 0, .int .i64 0, .int .i64 0, .bool false] 91 ?_; intro gb719 hg w228 hbox hb; have BK719 := xA (hbox); have GW719 := xgw hg (below_size (xB6 GE616.out GE654.out GE655.out GE663.out GE671.out GE701.out HB.out)); have GE719 := GW719; replace HB := xA (below_step (xB6 GE616.out GE654.out GE655.out GE663.out GE671.out GE701.out HB.out) hb); have NB616_719 := xnl hg BK616; have NB719_616 := xng hg BK616; replace BK616 := xkb BK616 hb; have NB654_719 := xnl hg BK654; have NB719_654 := xng hg BK654; replace BK654 := xkb BK654 hb; have NB655_719 := xnl hg BK655; have NB719_655 := xng hg BK655; replace BK655 := xkb BK655 hb; have NB663_719 := xnl hg BK663; have NB719_663 := xng hg BK663; replace BK663 := xkb BK663 hb; have NB671_719 := xnl hg BK671; have NB719_671 := xng hg BK671; replace BK671 := xkb BK671 hb; have NB701_719 := xnl hg BK701; have NB719_701 := xng hg BK701; replace BK701 := xkb BK701 hb; clear hb hbox hg; have hnb229 := NB719_616.out; have hnc229 := NB616_719.out; have hnb230 := NB719_654.out; have hnc230 := NB654_719.out; have hnb231 := NB719_655.out; have hnc231 := NB655_719.out; have hnb232 := NB719_663.out; have hnc232 := NB663_719.out; have hnb233 := NB719_671.out; have hnc233 := NB671_719.out; have hnb234 := NB719_701.out; have hnc234 := NB701_719.out; replace hz719 := blk_cell BK719.out; replace hy719 := blk_frozen BK719.out) | ((with_reducible refine gate_store (t := 91) (p := 56) rfl ?_); refine xS6 (ty := 91) (v0 := .int .i64 t710) (v1 := .int .i64 t711) (v2 := .int .i64 t712) (v3 := .int .i64 t713) (v4 := .int .i64 t714) (v5 := .bool t715) 56 350 (xK BK719.out) ?_; intro wS719 hbk hk hB; replace HB := xA (hB (xB HB.out) GE719.out); replace BK616 := xkk hk BK616 NB616_719; replace BK654 := xkk hk BK654 NB654_719; replace BK655 := xkk hk BK655 NB655_719; replace BK663 := xkk hk BK663 NB663_719; replace BK671 := xkk hk BK671 NB671_719; replace BK701 := xkk hk BK701 NB701_719; replace BK719 := xA hbk; clear hbk hk hB; replace hz719 := blk_cell BK719.out; replace hy719 := blk_frozen BK719.out; replace hz616 := blk_cell BK616.out; replace hy616 := blk_frozen BK616.out; replace hz654 := blk_cell BK654.out; replace hy654 := blk_frozen BK654.out; replace hz655 := blk_cell BK655.out; replace hy655 := blk_frozen BK655.out; replace hz663 := blk_cell BK663.out; replace hy663 := blk_frozen BK663.out; replace hz671 := blk_cell BK671.out; replace hy671 := blk_frozen BK671.out; replace hz701 := blk_cell BK701.out; replace hy701 := blk_frozen BK701.out))
         replace BK616 := xA (blk_drew BK616.out)
         replace BK654 := xA (blk_drew BK654.out)
         replace BK655 := xA (blk_drew BK655.out)
         replace BK663 := xA (blk_drew BK663.out)
         replace BK671 := xA (blk_drew BK671.out)
         replace BK701 := xA (blk_drew BK701.out)
         replace BK719 := xA (blk_drew BK719.out)
         replace HB := xA (below_drew1 HB.out)
         refine start_ (n := 42) (S := fun w' => w'.cell? ⟨gb701, 0, none⟩ = some (.int .i64 t695) ∧ w'.cell? ⟨gb701, 1, none⟩ = some (.int .i64 t696) ∧ w'.cell? ⟨gb701, 2, none⟩ = some (.int .i64 t697) ∧ w'.cell? ⟨gb701, 3, none⟩ = some (.int .i64 t698) ∧ w'.cell? ⟨gb701, 4, none⟩ = some (.int .i64 t699) ∧ w'.cell? ⟨gb701, 5, none⟩ = some (.bool t700)) (ds := []) x20a13 (by kernel_rfl) rfl rfl ⟨(blk_cell BK701.out 0).trans rfl, (blk_cell BK701.out 1).trans rfl, (blk_cell BK701.out 2).trans rfl, (blk_cell BK701.out 3).trans rfl, (blk_cell BK701.out 4).trans rfl, (blk_cell BK701.out 5).trans rfl⟩ (fun hHeld => ?_); refine with_tabW laws_FnPairsRun.tab51 laws_FnPairsRun.bits51 (fun HT_ HW_ => ?_)
         generalize w238.drew = w239 at BK616 BK654 BK655 BK663 BK671 BK701 BK719 HB hHeld ⊢
         refine xP 0 370 x20a14 ?_
         refine xP 1 371 x20a15 ?_
         refine xP 2 372 x20a16 ?_
         refine xP 3 373 x20a17 ?_
         refine xP 4 374 x20a18 ?_
         refine xP 5 375 x20a19 ?_
         refine xP 6 376 x20a20 ?_
         refine xP 7 377 x20a21 ?_
         refine xP 8 378 x20a22 ?_
         refine xP 9 379 x20a23 ?_
         refine xP 10 380 x20a24 ?_
         refine xP 11 381 x20a25 ?_
         refine xP 12 382 x20a26 ?_
         refine xP 13 383 x20a27 ?_
         refine xP 14 384 x20a28 ?_
         refine xP 15 385 x20a29 ?_
         refine xP 16 386 x20a30 ?_
         refine xP 17 387 x20a31 ?_
         refine xP 18 388 x20a32 ?_
         refine xP 19 389 x20a33 ?_
         refine xT6 hHeld 20 390 x20a34 ?_
         refine xU 21 391 x20a35 (fun K hK => ?_)
         refine xY Try.func156 #[.agg #[.int .i64 t695, .int .i64 t696, .int .i64 t697, .int .i64 t698, .int .i64 t699, .bool t700]] ?_
         with_reducible refine (impl_IsSecond.calls t695 t696 t697 t698 t699 t700 t724 _ A206.out).mono ?_
         rintro e w240 ⟨rfl, hb⟩
         refine ⟨_, rfl, ?_⟩
         replace BK616 := xkb BK616 hb
         replace BK654 := xkb BK654 hb
         replace BK655 := xkb BK655 hb
         replace BK663 := xkb BK663 hb
         replace BK671 := xkb BK671 hb
         replace BK701 := xkb BK701 hb
         replace BK719 := xkb BK719 hb
         replace HB := xA (below_step (xB7 GE616.out GE654.out GE655.out GE663.out GE671.out GE701.out GE719.out HB.out) hb)
         (try clear hb); (try clear hb2); (try clear hk); (try clear hi)
         refine hK.out _ _ ⟨(blk_cell BK701.out 0).trans rfl, (blk_cell BK701.out 1).trans rfl, (blk_cell BK701.out 2).trans rfl, (blk_cell BK701.out 3).trans rfl, (blk_cell BK701.out 4).trans rfl, (blk_cell BK701.out 5).trans rfl⟩ (fun hHeld => ?_)
         clear hK K
         refine xN ?_
         refine xP 22 392 x20a36 ?_
         refine xP 23 393 x20a37 ?_
         refine xP 24 394 x20a38 ?_
         refine xT6 hHeld 25 395 x20a39 ?_
         refine xT6 hHeld 27 397 x20a40 ?_
         refine xU 26 396 x20a41 (fun K hK => ?_)
         refine xY Try.func156 #[.agg #[.int .i64 t695, .int .i64 t696, .int .i64 t697, .int .i64 t698, .int .i64 t699, .bool t700]] ?_
         with_reducible refine (impl_IsSecond.calls t695 t696 t697 t698 t699 t700 t724 _ A208.out).mono ?_
         rintro e w241 ⟨rfl, hb⟩
         refine ⟨_, rfl, ?_⟩
         replace BK616 := xkb BK616 hb
         replace BK654 := xkb BK654 hb
         replace BK655 := xkb BK655 hb
         replace BK663 := xkb BK663 hb
         replace BK671 := xkb BK671 hb
         replace BK701 := xkb BK701 hb
         replace BK719 := xkb BK719 hb
         replace HB := xA (below_step (xB7 GE616.out GE654.out GE655.out GE663.out GE671.out GE701.out GE719.out HB.out) hb)
         (try clear hb); (try clear hb2); (try clear hk); (try clear hi)
         refine hK.out _ _ ⟨(blk_cell BK701.out 0).trans rfl, (blk_cell BK701.out 1).trans rfl, (blk_cell BK701.out 2).trans rfl, (blk_cell BK701.out 3).trans rfl, (blk_cell BK701.out 4).trans rfl, (blk_cell BK701.out 5).trans rfl⟩ (fun hHeld => ?_)
         clear hK K
         refine xN ?_
         refine xU 28 398 x20a42 (fun K hK => ?_)
         refine xY Try.func157 #[.agg #[.int .i64 t695, .int .i64 t696, .int .i64 t697, .int .i64 t698, .int .i64 t699, .bool t700]] ?_
         with_reducible refine (spec_IsSecond.calls t695 t696 t697 t698 t699 t700 t726 _ A209.out).mono ?_
         rintro e w242 ⟨rfl, hb⟩
         refine ⟨_, rfl, ?_⟩
         replace BK616 := xkb BK616 hb
         replace BK654 := xkb BK654 hb
         replace BK655 := xkb BK655 hb
         replace BK663 := xkb BK663 hb
         replace BK671 := xkb BK671 hb
         replace BK701 := xkb BK701 hb
         replace BK719 := xkb BK719 hb
         replace HB := xA (below_step (xB7 GE616.out GE654.out GE655.out GE663.out GE671.out GE701.out GE719.out HB.out) hb)
         (try clear hb); (try clear hb2); (try clear hk); (try clear hi)
         refine hK.out _ _ ⟨(blk_cell BK701.out 0).trans rfl, (blk_cell BK701.out 1).trans rfl, (blk_cell BK701.out 2).trans rfl, (blk_cell BK701.out 3).trans rfl, (blk_cell BK701.out 4).trans rfl, (blk_cell BK701.out 5).trans rfl⟩ (fun hHeld => ?_)
         clear hK K
         refine xN ?_
         refine xP 29 399 x20a43 ?_
         refine xP 30 400 x20a44 ?_
         refine xP 31 401 x20a45 ?_
         refine xP 32 402 x20a46 ?_
         refine xP 33 403 x20a47 ?_
         refine xP 34 404 x20a48 ?_
         refine xP 35 405 x20a49 ?_
         refine xP 36 406 x20a50 ?_
         refine xP 37 407 x20a51 ?_
         refine xP 38 408 x20a52 ?_
         refine xP 39 409 x20a53 ?_
         refine xP 40 410 x20a54 ?_
         refine xP 41 4 x20a55 ?_
         refine xDn ?_
         try go_wp2
         go_ret
         exact ⟨xr, xB7 GE616.out GE654.out GE655.out GE663.out GE671.out GE701.out GE719.out HB.out⟩
/-- THE ONE PURE STATEMENT of laws_FnPairsRun: yours. -/
def laws_FnPairsRun.Pure : Prop := ∀ (l0 : List Int) (l1 : List Int), l0.length ≤ maxLen → l0.length * 1 ≤ 140737488351232 → (∀ x ∈ l0, (Lit.int .u8 x).wf = true) → l1.length ≤ maxLen → l1.length * 1 ≤ 140737488351232 → (∀ x ∈ l1, (Lit.int .u8 x).wf = true) → ∃ k, laws_FnPairsRun.f k l0 l1 = some true
theorem laws_FnPairsRun.walk (P : laws_FnPairsRun.Pure) (a0 : Option Addr) (len0 cap0 : Nat) (z0 : List Int) (a1 : Option Addr) (len1 cap1 : Nat) (z1 : List Int) (w : World) (w0 : (a0 = none ∧ len0 = 0 ∧ cap0 = 0 ∧ z0 = []) ∨ ∃ x, a0 = some x ∧ len0 ≤ cap0 ∧ cap0 ≤ maxLen ∧ z0.length = cap0 ∧ (∀ i, i < z0.length → w.cell? (x.add i) = some (.int .u8 (z0.getD i 0))) ∧ ∀ n ∈ z0, (Lit.int .u8 n).wf = true) (y0 : len0 * 1 ≤ 140737488351232) (w1 : (a1 = none ∧ len1 = 0 ∧ cap1 = 0 ∧ z1 = []) ∨ ∃ x, a1 = some x ∧ len1 ≤ cap1 ∧ cap1 ≤ maxLen ∧ z1.length = cap1 ∧ (∀ i, i < z1.length → w.cell? (x.add i) = some (.int .u8 (z1.getD i 0))) ∧ ∀ n ∈ z1, (Lit.int .u8 n).wf = true) (y1 : len1 * 1 ≤ 140737488351232) :
  Calls Try.prog 10 #[.slice a0 len0 cap0, .slice a1 len1 cap1] w fun e w' => e = .returned (.bool true) ∧ Below w.heap.size w w' := by
 obtain ⟨l0, rfl, hr0, hm0, hw0, hc0⟩ := ReadsInt.ofRowC w0
 obtain ⟨l1, rfl, hr1, hm1, hw1, hc1⟩ := ReadsInt.ofRowC w1
 obtain ⟨k, h⟩ := P l0 l1 hm0 y0 hw0 hm1 y1 hw1
 refine (laws_FnPairsRun.calls k _ _ l0 _ _ l1 true w (Kd.C_of_reads (d := (0 : Int)) (h1 := fun _ => rfl) hr0) hc0 (Kd.C_of_reads (d := (0 : Int)) (h1 := fun _ => rfl) hr1) hc1 h rfl).mono ?_
 rintro e w' ⟨rfl, hd⟩
 exact ⟨rfl, hd⟩

end Go.Proofs.Ytjplcongellcmaa.PFnPairsRun
