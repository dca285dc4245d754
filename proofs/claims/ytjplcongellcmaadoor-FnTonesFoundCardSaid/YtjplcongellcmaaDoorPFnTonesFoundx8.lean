/- What each Go function that the statement FnTonesFound reaches answers, proved call by call. No condition beyond those that the theorems print. (Written by wip/tools/xprint.py of this repo, over the kit's print.) -/
import Derived.Test.YtjplcongellcmaaDoorPFnTonesFoundx0
import Derived.Test.YtjplcongellcmaaDoorPFnTonesFoundx1
import Derived.Test.YtjplcongellcmaaDoorPFnTonesFoundx2
import Derived.Test.YtjplcongellcmaaDoorPFnTonesFoundx3
import Derived.Test.YtjplcongellcmaaDoorPFnTonesFoundx4
import Derived.Test.YtjplcongellcmaaDoorPFnTonesFoundx5
import Derived.Test.YtjplcongellcmaaDoorPFnTonesFoundx6
import Derived.Test.YtjplcongellcmaaDoorPFnTonesFoundx7
namespace Go.Proofs.YtjplcongellcmaaDoor.PFnTonesFound
open Go.RowKit Go.Proofs.YtjplcongellcmaaDoorW.PrintWords Go.Proofs.YtjplcongellcmaaDoorW.PrintLast Go.Proofs.YtjplcongellcmaaDoorW.PrintMore
attribute [local go_sem] max2_int min2_int max_two min_two max_three min_three max_four min_four   -- for this text's walks alone
set_option linter.unusedVariables false
set_option linter.unusedSimpArgs false

set_option maxHeartbeats 200000000 in
set_option maxRecDepth 100000 in
theorem laws_FnTonesFound.calls (k : Nat) (A0 : Option Addr) (c0 : Nat) (l0 : List Int) (A1 : Option Addr) (c1 : Nat) (l1 : List Int) (r : Bool) (w : World) (hr0 : Kd.C (Kd.int .u8) w A0 l0.length l0) (hc0 : l0.length ≤ c0) (hr1 : Kd.C (Kd.int .u8) w A1 l1.length l1) (hc1 : l1.length ≤ c1) (hgl_ : GLob w) (h : laws_FnTonesFound.f k l0 l1 = some r) (hr_ : r = true) :
  Calls Tryd.prog 3 #[.slice A0 l0.length c0, .slice A1 l1.length c1] w fun e w' => e = .returned (.bool r) ∧ Below w.heap.size w w' := by
 have HGL := Aside0.mk hgl_
 clear hgl_
 have HRT := Aside0.mk hr_
 clear hr_
 have HR0 := Aside0.mk hr0
 have HC0 := Aside0.mk hc0
 clear hr0 hc0
 have HR1 := Aside0.mk hr1
 have HC1 := Aside0.mk hc1
 clear hr1 hc1
 have HB := Aside0.mk (Below.refl w.heap.size w)
 have H : ((laws_big.f l0 l1).bind fun t397 => (if t397 = true then (some true) else ((spec_DrawFourPowers.f k l0).bind fun t398 => ((impl_FourPowers.f k t398).bind fun bt401 => ((spec_FourPowers.f k t398).bind fun bt405 => ((impl_SixPowers.f k t398).bind fun bt409 => ((spec_SixPowers.f k t398).bind fun bt413 => (if (bt401.2 != bt405.2) = true then (laws_FnTonesFound.j0 k l1 t398 bt401.1 bt401.2 bt409.1 true) else ((laws_uSame.f k bt401.1 bt405.1).bind fun t417 => (if t417 = true then (if (bt409.2 != bt413.2) = true then (laws_FnTonesFound.j0 k l1 t398 bt401.1 bt401.2 bt409.1 true) else ((laws_uSame.f k bt409.1 bt413.1).bind fun t418 => (if t418 = true then (if (bt409.2 != bt401.2) = true then (laws_FnTonesFound.j0 k l1 t398 bt401.1 bt401.2 bt409.1 true) else ((impl_IsSignal.f k t398).bind fun t419 => (laws_FnTonesFound.j0 k l1 t398 bt401.1 bt401.2 bt409.1 (bt401.2 != t419)))) else (laws_FnTonesFound.j0 k l1 t398 bt401.1 bt401.2 bt409.1 true)))) else (laws_FnTonesFound.j0 k l1 t398 bt401.1 bt401.2 bt409.1 true))))))))))) = some r := h
 clear h
 obtain ⟨t397, A3, H⟩ := xO H
 (try dsimp only at H)
 by_cases c4 : t397 = true
 ·as_aux_lemma =>
   subst c4
   rw [if_pos rfl] at H
   obtain rfl := Option.some.inj H
   go_enter Tryd.func3, Tryd.ntmps3
   go_wp2_with (first | (go_at_call 5; (with_reducible refine (laws_big.calls _ _ l0 _ _ l1 true _ ?side1 ?side2 ?side3 ?side4 A3.out).mono ?_); (case side1 => exact xC HR0.out); (case side2 => exact HC0.out); (case side3 => exact xC HR1.out); (case side4 => exact HC1.out); rintro e w' ⟨rfl, ⟨nd, rfl⟩⟩; (try exact xD)))
   repeat (go_quiet (first | (go_at_call 5; (with_reducible refine (laws_big.calls _ _ l0 _ _ l1 true _ ?side1 ?side2 ?side3 ?side4 A3.out).mono ?_); (case side1 => exact xC HR0.out); (case side2 => exact HC0.out); (case side3 => exact xC HR1.out); (case side4 => exact HC1.out); rintro e w' ⟨rfl, ⟨nd, rfl⟩⟩; (try exact xD))); try go_wp2_with (first | (go_at_call 5; (with_reducible refine (laws_big.calls _ _ l0 _ _ l1 true _ ?side1 ?side2 ?side3 ?side4 A3.out).mono ?_); (case side1 => exact xC HR0.out); (case side2 => exact HC0.out); (case side3 => exact xC HR1.out); (case side4 => exact HC1.out); rintro e w' ⟨rfl, ⟨nd, rfl⟩⟩; (try exact xD))))
   go_ret
   exact ⟨by first | rfl | (simp [errW_none, errW_some] <;> rfl) | (simp [*, errW_none, errW_some] <;> rfl), xB HB.out⟩
 replace c4 := Bool.eq_false_iff.mpr c4
 subst c4
 rw [if_neg (show ¬ (false = true) by decide)] at H
 obtain ⟨t398, A5, H⟩ := xO H
 (try dsimp only at H)
 replace H := Option.bind_eq_some_iff.mp H
 obtain ⟨⟨t401, t402⟩, A60, H⟩ := H
 (try dsimp only at H)
 have A6 := Aside0.mk A60
 clear A60
 replace H := Option.bind_eq_some_iff.mp H
 obtain ⟨⟨t405, t406⟩, A70, H⟩ := H
 (try dsimp only at H)
 have A7 := Aside0.mk A70
 clear A70
 replace H := Option.bind_eq_some_iff.mp H
 obtain ⟨⟨t409, t410⟩, A80, H⟩ := H
 (try dsimp only at H)
 have A8 := Aside0.mk A80
 clear A80
 replace H := Option.bind_eq_some_iff.mp H
 obtain ⟨⟨t413, t414⟩, A90, H⟩ := H
 (try dsimp only at H)
 have A9 := Aside0.mk A90
 clear A90
 have HC10 := Aside0.mk H
 clear H
 go_enter Tryd.func3, Tryd.ntmps3
 go_upto_region 8 with (first | (go_at_call 5; (with_reducible refine (laws_big.calls _ _ l0 _ _ l1 false _ ?side1 ?side2 ?side3 ?side4 A3.out).mono ?_); (case side1 => exact xC HR0.out); (case side2 => exact HC0.out); (case side3 => exact xC HR1.out); (case side4 => exact HC1.out); rintro e w' ⟨rfl, ⟨nd, rfl⟩⟩; (try exact xD)) | (go_at_call 6; (with_reducible refine (spec_DrawFourPowers.calls k _ _ l0 t398 _ ?side1 ?side2 A5.out).mono ?_); (case side1 => exact xC HR0.out); (case side2 => exact HC0.out); rintro e w11 ⟨v399, rfl, ho0, hb⟩; have HO400 := Aside0.mk (Kd.R_lower ho0 (below_size (xB HB.out))); replace HB := Aside0.mk (below_step (xB HB.out) hb); (try clear hb); (try clear hb2); (try clear hk); (try clear hi); (try clear ho0); obtain ⟨Ao12, co12, eo12⟩ := Kd.R_slice HO400.out; subst eo12) | (go_at_call 7; (with_reducible refine (impl_FourPowers.calls k _ _ t398 t401 t402 _ ?side1 ?side2 ?sideg A6.out).mono ?_); (case sideg => exact GLob.below HGL.out (xB HB.out)); (case side1 => exact xC ((Kd.R_reads' HO400.out).2.2)); (case side2 => exact (Kd.R_reads' HO400.out).2.1); rintro e w13 ⟨v403, rfl, ho0, hb⟩; have HO404 := Aside0.mk (Kd.R_lower (Kd.R_new' ho0 (Kd.R_lt (xR HO400.out))) (below_size (xB HB.out))); replace HO400 := Aside0.mk (Kd.R_elder' (xR HO400.out) (Kd.R_base ho0) hb); replace HB := Aside0.mk (below_step (xB HB.out) hb); (try clear hb); (try clear hb2); (try clear hk); (try clear hi); (try clear ho0)) | (go_at_call 8; (with_reducible refine (spec_FourPowers.calls k _ _ t398 t405 t406 _ ?side1 ?side2 A7.out).mono ?_); (case side1 => exact xC ((Kd.R_reads' HO400.out).2.2)); (case side2 => exact (Kd.R_reads' HO400.out).2.1); rintro e w14 ⟨v407, rfl, ho0, hb⟩; have HO408 := Aside0.mk (Kd.R_lower (Kd.R_new' (Kd.R_new' ho0 (Kd.R_lt (xR HO400.out))) (Kd.R_lt (xR HO404.out))) (below_size (xB HB.out))); replace HO400 := Aside0.mk (Kd.R_elder' (xR HO400.out) (Kd.R_base ho0) hb); replace HO404 := Aside0.mk (Kd.R_elder' (xR HO404.out) (Kd.R_base ho0) hb); replace HB := Aside0.mk (below_step (xB HB.out) hb); (try clear hb); (try clear hb2); (try clear hk); (try clear hi); (try clear ho0)) | (go_at_call 9; (with_reducible refine (impl_SixPowers.calls k _ _ t398 t409 t410 _ ?side1 ?side2 ?sideg A8.out).mono ?_); (case sideg => exact GLob.below HGL.out (xB HB.out)); (case side1 => exact xC ((Kd.R_reads' HO400.out).2.2)); (case side2 => exact (Kd.R_reads' HO400.out).2.1); rintro e w15 ⟨v411, rfl, ho0, hb⟩; have HO412 := Aside0.mk (Kd.R_lower (Kd.R_new' (Kd.R_new' (Kd.R_new' ho0 (Kd.R_lt (xR HO400.out))) (Kd.R_lt (xR HO404.out))) (Kd.R_lt (xR HO408.out))) (below_size (xB HB.out))); replace HO400 := Aside0.mk (Kd.R_elder' (xR HO400.out) (Kd.R_base ho0) hb); replace HO404 := Aside0.mk (Kd.R_elder' (xR HO404.out) (Kd.R_base ho0) hb); replace HO408 := Aside0.mk (Kd.R_elder' (xR HO408.out) (Kd.R_base ho0) hb); replace HB := Aside0.mk (below_step (xB HB.out) hb); (try clear hb); (try clear hb2); (try clear hk); (try clear hi); (try clear ho0)) | (go_at_call 10; (with_reducible refine (spec_SixPowers.calls k _ _ t398 t413 t414 _ ?side1 ?side2 A9.out).mono ?_); (case side1 => exact xC ((Kd.R_reads' HO400.out).2.2)); (case side2 => exact (Kd.R_reads' HO400.out).2.1); rintro e w16 ⟨v415, rfl, ho0, hb⟩; have HO416 := Aside0.mk (Kd.R_lower (Kd.R_new' (Kd.R_new' (Kd.R_new' (Kd.R_new' ho0 (Kd.R_lt (xR HO400.out))) (Kd.R_lt (xR HO404.out))) (Kd.R_lt (xR HO408.out))) (Kd.R_lt (xR HO412.out))) (below_size (xB HB.out))); replace HO400 := Aside0.mk (Kd.R_elder' (xR HO400.out) (Kd.R_base ho0) hb); replace HO404 := Aside0.mk (Kd.R_elder' (xR HO404.out) (Kd.R_base ho0) hb); replace HO408 := Aside0.mk (Kd.R_elder' (xR HO408.out) (Kd.R_base ho0) hb); replace HO412 := Aside0.mk (Kd.R_elder' (xR HO412.out) (Kd.R_base ho0) hb); replace HB := Aside0.mk (below_step (xB HB.out) hb); (try clear hb); (try clear hb2); (try clear hk); (try clear hi); (try clear ho0)))
 repeat (go_quiet (first | (go_at_call 5; (with_reducible refine (laws_big.calls _ _ l0 _ _ l1 false _ ?side1 ?side2 ?side3 ?side4 A3.out).mono ?_); (case side1 => exact xC HR0.out); (case side2 => exact HC0.out); (case side3 => exact xC HR1.out); (case side4 => exact HC1.out); rintro e w' ⟨rfl, ⟨nd, rfl⟩⟩; (try exact xD)) | (go_at_call 6; (with_reducible refine (spec_DrawFourPowers.calls k _ _ l0 t398 _ ?side1 ?side2 A5.out).mono ?_); (case side1 => exact xC HR0.out); (case side2 => exact HC0.out); rintro e w11 ⟨v399, rfl, ho0, hb⟩; have HO400 := Aside0.mk (Kd.R_lower ho0 (below_size (xB HB.out))); replace HB := Aside0.mk (below_step (xB HB.out) hb); (try clear hb); (try clear hb2); (try clear hk); (try clear hi); (try clear ho0); obtain ⟨Ao12, co12, eo12⟩ := Kd.R_slice HO400.out; subst eo12) | (go_at_call 7; (with_reducible refine (impl_FourPowers.calls k _ _ t398 t401 t402 _ ?side1 ?side2 ?sideg A6.out).mono ?_); (case sideg => exact GLob.below HGL.out (xB HB.out)); (case side1 => exact xC ((Kd.R_reads' HO400.out).2.2)); (case side2 => exact (Kd.R_reads' HO400.out).2.1); rintro e w13 ⟨v403, rfl, ho0, hb⟩; have HO404 := Aside0.mk (Kd.R_lower (Kd.R_new' ho0 (Kd.R_lt (xR HO400.out))) (below_size (xB HB.out))); replace HO400 := Aside0.mk (Kd.R_elder' (xR HO400.out) (Kd.R_base ho0) hb); replace HB := Aside0.mk (below_step (xB HB.out) hb); (try clear hb); (try clear hb2); (try clear hk); (try clear hi); (try clear ho0)) | (go_at_call 8; (with_reducible refine (spec_FourPowers.calls k _ _ t398 t405 t406 _ ?side1 ?side2 A7.out).mono ?_); (case side1 => exact xC ((Kd.R_reads' HO400.out).2.2)); (case side2 => exact (Kd.R_reads' HO400.out).2.1); rintro e w14 ⟨v407, rfl, ho0, hb⟩; have HO408 := Aside0.mk (Kd.R_lower (Kd.R_new' (Kd.R_new' ho0 (Kd.R_lt (xR HO400.out))) (Kd.R_lt (xR HO404.out))) (below_size (xB HB.out))); replace HO400 := Aside0.mk (Kd.R_elder' (xR HO400.out) (Kd.R_base ho0) hb); replace HO404 := Aside0.mk (Kd.R_elder' (xR HO404.out) (Kd.R_base ho0) hb); replace HB := Aside0.mk (below_step (xB HB.out) hb); (try clear hb); (try clear hb2); (try clear hk); (try clear hi); (try clear ho0)) | (go_at_call 9; (with_reducible refine (impl_SixPowers.calls k _ _ t398 t409 t410 _ ?side1 ?side2 ?sideg A8.out).mono ?_); (case sideg => exact GLob.below HGL.out (xB HB.out)); (case side1 => exact xC ((Kd.R_reads' HO400.out).2.2)); (case side2 => exact (Kd.R_reads' HO400.out).2.1); rintro e w15 ⟨v411, rfl, ho0, hb⟩; have HO412 := Aside0.mk (Kd.R_lower (Kd.R_new' (Kd.R_new' (Kd.R_new' ho0 (Kd.R_lt (xR HO400.out))) (Kd.R_lt (xR HO404.out))) (Kd.R_lt (xR HO408.out))) (below_size (xB HB.out))); replace HO400 := Aside0.mk (Kd.R_elder' (xR HO400.out) (Kd.R_base ho0) hb); replace HO404 := Aside0.mk (Kd.R_elder' (xR HO404.out) (Kd.R_base ho0) hb); replace HO408 := Aside0.mk (Kd.R_elder' (xR HO408.out) (Kd.R_base ho0) hb); replace HB := Aside0.mk (below_step (xB HB.out) hb); (try clear hb); (try clear hb2); (try clear hk); (try clear hi); (try clear ho0)) | (go_at_call 10; (with_reducible refine (spec_SixPowers.calls k _ _ t398 t413 t414 _ ?side1 ?side2 A9.out).mono ?_); (case side1 => exact xC ((Kd.R_reads' HO400.out).2.2)); (case side2 => exact (Kd.R_reads' HO400.out).2.1); rintro e w16 ⟨v415, rfl, ho0, hb⟩; have HO416 := Aside0.mk (Kd.R_lower (Kd.R_new' (Kd.R_new' (Kd.R_new' (Kd.R_new' ho0 (Kd.R_lt (xR HO400.out))) (Kd.R_lt (xR HO404.out))) (Kd.R_lt (xR HO408.out))) (Kd.R_lt (xR HO412.out))) (below_size (xB HB.out))); replace HO400 := Aside0.mk (Kd.R_elder' (xR HO400.out) (Kd.R_base ho0) hb); replace HO404 := Aside0.mk (Kd.R_elder' (xR HO404.out) (Kd.R_base ho0) hb); replace HO408 := Aside0.mk (Kd.R_elder' (xR HO408.out) (Kd.R_base ho0) hb); replace HO412 := Aside0.mk (Kd.R_elder' (xR HO412.out) (Kd.R_base ho0) hb); replace HB := Aside0.mk (below_step (xB HB.out) hb); (try clear hb); (try clear hb2); (try clear hk); (try clear hi); (try clear ho0))); go_upto_region 8 with (first | (go_at_call 5; (with_reducible refine (laws_big.calls _ _ l0 _ _ l1 false _ ?side1 ?side2 ?side3 ?side4 A3.out).mono ?_); (case side1 => exact xC HR0.out); (case side2 => exact HC0.out); (case side3 => exact xC HR1.out); (case side4 => exact HC1.out); rintro e w' ⟨rfl, ⟨nd, rfl⟩⟩; (try exact xD)) | (go_at_call 6; (with_reducible refine (spec_DrawFourPowers.calls k _ _ l0 t398 _ ?side1 ?side2 A5.out).mono ?_); (case side1 => exact xC HR0.out); (case side2 => exact HC0.out); rintro e w11 ⟨v399, rfl, ho0, hb⟩; have HO400 := Aside0.mk (Kd.R_lower ho0 (below_size (xB HB.out))); replace HB := Aside0.mk (below_step (xB HB.out) hb); (try clear hb); (try clear hb2); (try clear hk); (try clear hi); (try clear ho0); obtain ⟨Ao12, co12, eo12⟩ := Kd.R_slice HO400.out; subst eo12) | (go_at_call 7; (with_reducible refine (impl_FourPowers.calls k _ _ t398 t401 t402 _ ?side1 ?side2 ?sideg A6.out).mono ?_); (case sideg => exact GLob.below HGL.out (xB HB.out)); (case side1 => exact xC ((Kd.R_reads' HO400.out).2.2)); (case side2 => exact (Kd.R_reads' HO400.out).2.1); rintro e w13 ⟨v403, rfl, ho0, hb⟩; have HO404 := Aside0.mk (Kd.R_lower (Kd.R_new' ho0 (Kd.R_lt (xR HO400.out))) (below_size (xB HB.out))); replace HO400 := Aside0.mk (Kd.R_elder' (xR HO400.out) (Kd.R_base ho0) hb); replace HB := Aside0.mk (below_step (xB HB.out) hb); (try clear hb); (try clear hb2); (try clear hk); (try clear hi); (try clear ho0)) | (go_at_call 8; (with_reducible refine (spec_FourPowers.calls k _ _ t398 t405 t406 _ ?side1 ?side2 A7.out).mono ?_); (case side1 => exact xC ((Kd.R_reads' HO400.out).2.2)); (case side2 => exact (Kd.R_reads' HO400.out).2.1); rintro e w14 ⟨v407, rfl, ho0, hb⟩; have HO408 := Aside0.mk (Kd.R_lower (Kd.R_new' (Kd.R_new' ho0 (Kd.R_lt (xR HO400.out))) (Kd.R_lt (xR HO404.out))) (below_size (xB HB.out))); replace HO400 := Aside0.mk (Kd.R_elder' (xR HO400.out) (Kd.R_base ho0) hb); replace HO404 := Aside0.mk (Kd.R_elder' (xR HO404.out) (Kd.R_base ho0) hb); replace HB := Aside0.mk (below_step (xB HB.out) hb); (try clear hb); (try clear hb2); (try clear hk); (try clear hi); (try clear ho0)) | (go_at_call 9; (with_reducible refine (impl_SixPowers.calls k _ _ t398 t409 t410 _ ?side1 ?side2 ?sideg A8.out).mono ?_); (case sideg => exact GLob.below HGL.out (xB HB.out)); (case side1 => exact xC ((Kd.R_reads' HO400.out).2.2)); (case side2 => exact (Kd.R_reads' HO400.out).2.1); rintro e w15 ⟨v411, rfl, ho0, hb⟩; have HO412 := Aside0.mk (Kd.R_lower (Kd.R_new' (Kd.R_new' (Kd.R_new' ho0 (Kd.R_lt (xR HO400.out))) (Kd.R_lt (xR HO404.out))) (Kd.R_lt (xR HO408.out))) (below_size (xB HB.out))); replace HO400 := Aside0.mk (Kd.R_elder' (xR HO400.out) (Kd.R_base ho0) hb); replace HO404 := Aside0.mk (Kd.R_elder' (xR HO404.out) (Kd.R_base ho0) hb); replace HO408 := Aside0.mk (Kd.R_elder' (xR HO408.out) (Kd.R_base ho0) hb); replace HB := Aside0.mk (below_step (xB HB.out) hb); (try clear hb); (try clear hb2); (try clear hk); (try clear hi); (try clear ho0)) | (go_at_call 10; (with_reducible refine (spec_SixPowers.calls k _ _ t398 t413 t414 _ ?side1 ?side2 A9.out).mono ?_); (case side1 => exact xC ((Kd.R_reads' HO400.out).2.2)); (case side2 => exact (Kd.R_reads' HO400.out).2.1); rintro e w16 ⟨v415, rfl, ho0, hb⟩; have HO416 := Aside0.mk (Kd.R_lower (Kd.R_new' (Kd.R_new' (Kd.R_new' (Kd.R_new' ho0 (Kd.R_lt (xR HO400.out))) (Kd.R_lt (xR HO404.out))) (Kd.R_lt (xR HO408.out))) (Kd.R_lt (xR HO412.out))) (below_size (xB HB.out))); replace HO400 := Aside0.mk (Kd.R_elder' (xR HO400.out) (Kd.R_base ho0) hb); replace HO404 := Aside0.mk (Kd.R_elder' (xR HO404.out) (Kd.R_base ho0) hb); replace HO408 := Aside0.mk (Kd.R_elder' (xR HO408.out) (Kd.R_base ho0) hb); replace HO412 := Aside0.mk (Kd.R_elder' (xR HO412.out) (Kd.R_base ho0) hb); replace HB := Aside0.mk (below_step (xB HB.out) hb); (try clear hb); (try clear hb2); (try clear hk); (try clear hi); (try clear ho0))))
 (try simp only [Act.put, List.setIfInBounds_toArray, List.set_cons_zero, List.set_cons_succ])
 go_cut [135] (fun v135 wc => ∃ (kq : Nat) (x135_9 : Bool), v135 = .bool x135_9 ∧ Aside0 (laws_FnTonesFound.j0 kq l1 t398 t401 t402 t409 x135_9 = some r) ∧ Aside0 (kq ≤ k) ∧ Aside0 (Kd.R (Kd.int .i64) 3 wc w.heap.size (fun k_ => some k_ ≠ (v403 : Value).ownBlock ∧ some k_ ≠ (v411 : Value).ownBlock) (.slice Ao12 t398.length co12) t398) ∧ Aside0 (Kd.R (Kd.int .i64) 3 wc w.heap.size (fun k_ => some k_ ≠ ((.slice Ao12 t398.length co12) : Value).ownBlock ∧ some k_ ≠ (v411 : Value).ownBlock) v403 t401) ∧ Aside0 (Kd.R (Kd.int .i64) 3 wc w.heap.size (fun k_ => some k_ ≠ ((.slice Ao12 t398.length co12) : Value).ownBlock ∧ some k_ ≠ (v403 : Value).ownBlock) v411 t409) ∧ Aside0 (Below w.heap.size w wc))
 case first => as_aux_lemma =>
  have H := HC10.out
  clear HC10
  by_cases c17 : (t402 != t406) = true
  ·rw [if_pos c17] at H; exact absurd H (by have hr_ := HRT.out; cases k <;> simp [laws_FnTonesFound.j0, hr_])
  rw [if_neg c17] at H
  have c17b0 : (t402 != t406) = false := by simpa using c17
  (try (have c17b1 : decide (t402 = t406) = true := by simpa using c17))
  (try (have c17b2 : (t402 == t406) = true := by simpa using c17))
  clear c17
  (first | rw [c17b0] | (simp only [i64_w, i32_w]; rw [c17b0]) | skip)
  obtain ⟨t417, A18, H⟩ := xO H
  (try dsimp only at H)
  by_cases c19 : t417 = true
  rotate_left
  ·replace c19 := Bool.eq_false_iff.mpr c19; subst c19; exact absurd H (by have hr_ := HRT.out; cases k <;> simp [laws_FnTonesFound.j0, hr_])
  subst c19
  rw [if_pos rfl] at H
  by_cases c20 : (t410 != t414) = true
  ·rw [if_pos c20] at H; exact absurd H (by have hr_ := HRT.out; cases k <;> simp [laws_FnTonesFound.j0, hr_])
  as_aux_lemma =>
   rw [if_neg c20] at H
   have c20b0 : (t410 != t414) = false := by simpa using c20
   (try (have c20b1 : decide (t410 = t414) = true := by simpa using c20))
   (try (have c20b2 : (t410 == t414) = true := by simpa using c20))
   clear c20
   obtain ⟨t418, A21, H⟩ := xO H
   (try dsimp only at H)
   by_cases c22 : t418 = true
   rotate_left
   ·replace c22 := Bool.eq_false_iff.mpr c22; subst c22; exact absurd H (by have hr_ := HRT.out; cases k <;> simp [laws_FnTonesFound.j0, hr_])
   subst c22
   rw [if_pos rfl] at H
   by_cases c23 : (t410 != t402) = true
   ·rw [if_pos c23] at H; exact absurd H (by have hr_ := HRT.out; cases k <;> simp [laws_FnTonesFound.j0, hr_])
   rw [if_neg c23] at H
   have c23b0 : (t410 != t402) = false := by simpa using c23
   (try (have c23b1 : decide (t410 = t402) = true := by simpa using c23))
   (try (have c23b2 : (t410 == t402) = true := by simpa using c23))
   clear c23
   obtain ⟨t419, A24, H⟩ := xO H
   (try dsimp only at H)
   have H' := Aside0.mk H
   clear H
   obtain ⟨Ao25, co25, eo25⟩ := Kd.R_slice HO404.out
   subst eo25
   obtain ⟨Ao26, co26, eo26⟩ := Kd.R_slice HO408.out
   subst eo26
   go_wp2_with (first | (go_at_call 11; (with_reducible refine (laws_uSame.calls k _ _ t401 _ _ t405 true _ ?side1 ?side2 ?side3 ?side4 A18.out).mono ?_); (case side1 => exact xC ((Kd.R_reads' HO404.out).2.2)); (case side2 => exact (Kd.R_reads' HO404.out).2.1); (case side3 => exact xC ((Kd.R_reads' HO408.out).2.2)); (case side4 => exact (Kd.R_reads' HO408.out).2.1); rintro e w' ⟨rfl, ⟨nd, rfl⟩⟩; (try exact xD); obtain ⟨Ao27, co27, eo27⟩ := Kd.R_slice HO412.out; subst eo27; obtain ⟨Ao28, co28, eo28⟩ := Kd.R_slice HO416.out; subst eo28) | (go_at_call 11; (with_reducible refine (laws_uSame.calls k _ _ t409 _ _ t413 true _ ?side1 ?side2 ?side3 ?side4 A21.out).mono ?_); (case side1 => exact xC ((Kd.R_reads' HO412.out).2.2)); (case side2 => exact (Kd.R_reads' HO412.out).2.1); (case side3 => exact xC ((Kd.R_reads' HO416.out).2.2)); (case side4 => exact (Kd.R_reads' HO416.out).2.1); rintro e w' ⟨rfl, ⟨nd, rfl⟩⟩; (try exact xD)) | (go_at_call 12; (with_reducible refine (impl_IsSignal.calls k _ _ t398 t419 _ ?side1 ?side2 A24.out).mono ?_); (case side1 => exact xC ((Kd.R_reads' HO400.out).2.2)); (case side2 => exact (Kd.R_reads' HO400.out).2.1); rintro e w' ⟨rfl, ⟨nd, rfl⟩⟩; (try exact xD)))
   repeat (go_quiet (first | (go_at_call 11; (with_reducible refine (laws_uSame.calls k _ _ t401 _ _ t405 true _ ?side1 ?side2 ?side3 ?side4 A18.out).mono ?_); (case side1 => exact xC ((Kd.R_reads' HO404.out).2.2)); (case side2 => exact (Kd.R_reads' HO404.out).2.1); (case side3 => exact xC ((Kd.R_reads' HO408.out).2.2)); (case side4 => exact (Kd.R_reads' HO408.out).2.1); rintro e w' ⟨rfl, ⟨nd, rfl⟩⟩; (try exact xD); obtain ⟨Ao27, co27, eo27⟩ := Kd.R_slice HO412.out; subst eo27; obtain ⟨Ao28, co28, eo28⟩ := Kd.R_slice HO416.out; subst eo28) | (go_at_call 11; (with_reducible refine (laws_uSame.calls k _ _ t409 _ _ t413 true _ ?side1 ?side2 ?side3 ?side4 A21.out).mono ?_); (case side1 => exact xC ((Kd.R_reads' HO412.out).2.2)); (case side2 => exact (Kd.R_reads' HO412.out).2.1); (case side3 => exact xC ((Kd.R_reads' HO416.out).2.2)); (case side4 => exact (Kd.R_reads' HO416.out).2.1); rintro e w' ⟨rfl, ⟨nd, rfl⟩⟩; (try exact xD)) | (go_at_call 12; (with_reducible refine (impl_IsSignal.calls k _ _ t398 t419 _ ?side1 ?side2 A24.out).mono ?_); (case side1 => exact xC ((Kd.R_reads' HO400.out).2.2)); (case side2 => exact (Kd.R_reads' HO400.out).2.1); rintro e w' ⟨rfl, ⟨nd, rfl⟩⟩; (try exact xD))); try go_wp2_with (first | (go_at_call 11; (with_reducible refine (laws_uSame.calls k _ _ t401 _ _ t405 true _ ?side1 ?side2 ?side3 ?side4 A18.out).mono ?_); (case side1 => exact xC ((Kd.R_reads' HO404.out).2.2)); (case side2 => exact (Kd.R_reads' HO404.out).2.1); (case side3 => exact xC ((Kd.R_reads' HO408.out).2.2)); (case side4 => exact (Kd.R_reads' HO408.out).2.1); rintro e w' ⟨rfl, ⟨nd, rfl⟩⟩; (try exact xD); obtain ⟨Ao27, co27, eo27⟩ := Kd.R_slice HO412.out; subst eo27; obtain ⟨Ao28, co28, eo28⟩ := Kd.R_slice HO416.out; subst eo28) | (go_at_call 11; (with_reducible refine (laws_uSame.calls k _ _ t409 _ _ t413 true _ ?side1 ?side2 ?side3 ?side4 A21.out).mono ?_); (case side1 => exact xC ((Kd.R_reads' HO412.out).2.2)); (case side2 => exact (Kd.R_reads' HO412.out).2.1); (case side3 => exact xC ((Kd.R_reads' HO416.out).2.2)); (case side4 => exact (Kd.R_reads' HO416.out).2.1); rintro e w' ⟨rfl, ⟨nd, rfl⟩⟩; (try exact xD)) | (go_at_call 12; (with_reducible refine (impl_IsSignal.calls k _ _ t398 t419 _ ?side1 ?side2 A24.out).mono ?_); (case side1 => exact xC ((Kd.R_reads' HO400.out).2.2)); (case side2 => exact (Kd.R_reads' HO400.out).2.1); rintro e w' ⟨rfl, ⟨nd, rfl⟩⟩; (try exact xD))))
   go_meet
   case rel => exact ⟨_, ((t402 != t419)), (by first | rfl | (simp; done) | (simp [*]; done)), H', ⟨by first | omega | exact Nat.le_refl _⟩, ⟨by (with_reducible repeat (first | apply Kd.R_alloc | apply Kd.R_drewN | apply Kd.R_drew)); exact Kd.R_mono HO400.out (fun _ hk => ⟨hk.1.1.1.2, hk.1.2⟩)⟩, ⟨by (with_reducible repeat (first | apply Kd.R_alloc | apply Kd.R_drewN | apply Kd.R_drew)); exact Kd.R_mono HO404.out (fun _ hk => ⟨hk.1.1.1.2, hk.1.2⟩)⟩, ⟨by (with_reducible repeat (first | apply Kd.R_alloc | apply Kd.R_drewN | apply Kd.R_drew)); exact Kd.R_mono HO412.out (fun _ hk => ⟨hk.1.1.1.2, hk.1.1.2⟩)⟩, ⟨xB HB.out⟩⟩
 case rest => as_aux_lemma =>
  clear HC10
  try clear c1
  try clear c4
  obtain ⟨kq, x135_9, rfl, HA, HJ9, HO_5, HO_6, HO_10, HB⟩ := hcut
  cases kq with
  | zero => exact absurd HA.out (by simp [laws_FnTonesFound.j0])
  | succ kj9 =>
   have H := HA.out
   clear HA
   simp only [laws_FnTonesFound.j0] at H
   by_cases c29 : x135_9 = true
   ·as_aux_lemma =>
     subst c29
     rw [if_pos rfl] at H
     exact absurd ((Option.some.inj H).trans HRT.out) (by decide)
   replace c29 := Bool.eq_false_iff.mpr c29
   subst c29
   rw [if_neg (show ¬ (false = true) by decide)] at H
   have HC30 := Aside0.mk H
   clear H
   go_upto_if 136 with (fail)
   repeat (go_quiet (fail); go_upto_if 136 with (fail))
   go_cut [] (fun wc => ∃ (kq : Nat), Aside0 (laws_FnTonesFound.j7 kq l1 = some r) ∧ Aside0 (kq ≤ kj9) ∧ Aside0 (Below w.heap.size w wc))
   case first => as_aux_lemma =>
    have H := HC30.out
    clear HC30
    by_cases c31 : t402 = true
    rotate_left
    ·as_aux_lemma =>
      replace c31 := Bool.eq_false_iff.mpr c31
      subst c31
      rw [if_neg (show ¬ (false = true) by decide)] at H
      have H' := Aside0.mk H
      clear H
      go_wp2
      repeat (go_quiet (fail); try go_wp2)
      go_meet
      case rel => exact ⟨_, H', ⟨by have := HJ9.out; first | omega | exact Nat.le_refl _⟩, ⟨xB HB.out⟩⟩
    subst c31
    rw [if_pos rfl] at H
    obtain ⟨y420, hy420⟩ : ∃ y_ : List Int, y_ = (([4, 6] : List Int)) := ⟨_, rfl⟩
    replace H : (laws_FnTonesFound.l0 kj9 l1 t398 t401 t409 y420 (y420.length : Int) 0) = some r := by first | (rw [hy420]; with_reducible exact H) | (have H2_ := (Option.bind_some _ _).symm.trans H; rw [hy420]; with_reducible exact H2_) | (have H2_ := (Option.bind_some _ _).symm.trans H; with_reducible exact H2_) | with_reducible exact H | (rw [hy420]; exact H) | exact H
    have Ny420 := Aside0.mk hy420
    clear hy420
    have H' := Aside0.mk H
    clear H
    go_wp2_with (first | ((with_reducible refine gate_dst (N := 137) rfl ?_); refine Kd.R_lit (Kd.int .i64) _ 3 ?hg (N := 137) ?hd (xs := ([4, 6] : List Int)) (inner := [.int .i64 4, .int .i64 6]) (ok := fun _ => True) (okp := fun _ => True) ?hr ?hp (fun _ hk => hk) trivial (Below.refl _ _) (Nat.le_refl _) (by simp) ?_; (case hd => rfl); (case hg => rfl); (case hr => first | (go_simp; done) | (go_simp; rfl)); (case hp => exact (Reps.one (show Kd.M (Kd.int .i64) _ _ _ 4 [.int .i64 4] from rfl) (Reps.one (show Kd.M (Kd.int .i64) _ _ _ 6 [.int .i64 6] from rfl) (Reps.none _ _)))); intro v421 w32 ho33 hb hg_ hnew_; clear hg_ hnew_; (first | rw [← Ny420.out] at ho33 | (simp only [Int.reduceToNat] at ho33; rw [← Ny420.out] at ho33)); have HO422 := Aside0.mk (Kd.R_lower (Kd.R_new' (Kd.R_new' (Kd.R_new' ho33 (Kd.R_lt (xR HO_5.out))) (Kd.R_lt (xR HO_6.out))) (Kd.R_lt (xR HO_10.out))) (below_size (xB HB.out))); replace HO_5 := Aside0.mk (Kd.R_elder' (xR HO_5.out) (Kd.R_base ho33) hb); replace HO_6 := Aside0.mk (Kd.R_elder' (xR HO_6.out) (Kd.R_base ho33) hb); replace HO_10 := Aside0.mk (Kd.R_elder' (xR HO_10.out) (Kd.R_base ho33) hb); replace HB := Aside0.mk (below_step (xB HB.out) hb); clear hb ho33; obtain ⟨Ao34, co34, eo34⟩ := Kd.R_slice HO422.out; subst eo34))
    repeat (go_quiet (first | ((with_reducible refine gate_dst (N := 137) rfl ?_); refine Kd.R_lit (Kd.int .i64) _ 3 ?hg (N := 137) ?hd (xs := ([4, 6] : List Int)) (inner := [.int .i64 4, .int .i64 6]) (ok := fun _ => True) (okp := fun _ => True) ?hr ?hp (fun _ hk => hk) trivial (Below.refl _ _) (Nat.le_refl _) (by simp) ?_; (case hd => rfl); (case hg => rfl); (case hr => first | (go_simp; done) | (go_simp; rfl)); (case hp => exact (Reps.one (show Kd.M (Kd.int .i64) _ _ _ 4 [.int .i64 4] from rfl) (Reps.one (show Kd.M (Kd.int .i64) _ _ _ 6 [.int .i64 6] from rfl) (Reps.none _ _)))); intro v421 w32 ho33 hb hg_ hnew_; clear hg_ hnew_; (first | rw [← Ny420.out] at ho33 | (simp only [Int.reduceToNat] at ho33; rw [← Ny420.out] at ho33)); have HO422 := Aside0.mk (Kd.R_lower (Kd.R_new' (Kd.R_new' (Kd.R_new' ho33 (Kd.R_lt (xR HO_5.out))) (Kd.R_lt (xR HO_6.out))) (Kd.R_lt (xR HO_10.out))) (below_size (xB HB.out))); replace HO_5 := Aside0.mk (Kd.R_elder' (xR HO_5.out) (Kd.R_base ho33) hb); replace HO_6 := Aside0.mk (Kd.R_elder' (xR HO_6.out) (Kd.R_base ho33) hb); replace HO_10 := Aside0.mk (Kd.R_elder' (xR HO_10.out) (Kd.R_base ho33) hb); replace HB := Aside0.mk (below_step (xB HB.out) hb); clear hb ho33; obtain ⟨Ao34, co34, eo34⟩ := Kd.R_slice HO422.out; subst eo34)); try go_wp2_with (first | ((with_reducible refine gate_dst (N := 137) rfl ?_); refine Kd.R_lit (Kd.int .i64) _ 3 ?hg (N := 137) ?hd (xs := ([4, 6] : List Int)) (inner := [.int .i64 4, .int .i64 6]) (ok := fun _ => True) (okp := fun _ => True) ?hr ?hp (fun _ hk => hk) trivial (Below.refl _ _) (Nat.le_refl _) (by simp) ?_; (case hd => rfl); (case hg => rfl); (case hr => first | (go_simp; done) | (go_simp; rfl)); (case hp => exact (Reps.one (show Kd.M (Kd.int .i64) _ _ _ 4 [.int .i64 4] from rfl) (Reps.one (show Kd.M (Kd.int .i64) _ _ _ 6 [.int .i64 6] from rfl) (Reps.none _ _)))); intro v421 w32 ho33 hb hg_ hnew_; clear hg_ hnew_; (first | rw [← Ny420.out] at ho33 | (simp only [Int.reduceToNat] at ho33; rw [← Ny420.out] at ho33)); have HO422 := Aside0.mk (Kd.R_lower (Kd.R_new' (Kd.R_new' (Kd.R_new' ho33 (Kd.R_lt (xR HO_5.out))) (Kd.R_lt (xR HO_6.out))) (Kd.R_lt (xR HO_10.out))) (below_size (xB HB.out))); replace HO_5 := Aside0.mk (Kd.R_elder' (xR HO_5.out) (Kd.R_base ho33) hb); replace HO_6 := Aside0.mk (Kd.R_elder' (xR HO_6.out) (Kd.R_base ho33) hb); replace HO_10 := Aside0.mk (Kd.R_elder' (xR HO_10.out) (Kd.R_base ho33) hb); replace HB := Aside0.mk (below_step (xB HB.out) hb); clear hb ho33; obtain ⟨Ao34, co34, eo34⟩ := Kd.R_slice HO422.out; subst eo34)))
    go_loopg [139] kj9 (fun kq v139 w' => ∃ (x5_2 : List Int) (x6_2 : List Int) (x10_2 : List Int) (x137_2 : List Int) (x139_2 : Int), v139 = .int .i64 x139_2 ∧ Aside0 (laws_FnTonesFound.l0 kq l1 x5_2 x6_2 x10_2 x137_2 (y420.length : Int) x139_2 = some r) ∧ Aside0 (kq ≤ kj9) ∧ Aside0 (Kd.R (Kd.int .i64) 3 w' w.heap.size (fun k_ => some k_ ≠ (v403 : Value).ownBlock ∧ some k_ ≠ (v411 : Value).ownBlock ∧ some k_ ≠ ((.slice Ao34 y420.length co34) : Value).ownBlock) (.slice Ao12 t398.length co12) x5_2) ∧ Aside0 (Kd.R (Kd.int .i64) 3 w' w.heap.size (fun k_ => some k_ ≠ ((.slice Ao12 t398.length co12) : Value).ownBlock ∧ some k_ ≠ (v411 : Value).ownBlock ∧ some k_ ≠ ((.slice Ao34 y420.length co34) : Value).ownBlock) v403 x6_2) ∧ Aside0 (Kd.R (Kd.int .i64) 3 w' w.heap.size (fun k_ => some k_ ≠ ((.slice Ao12 t398.length co12) : Value).ownBlock ∧ some k_ ≠ (v403 : Value).ownBlock ∧ some k_ ≠ ((.slice Ao34 y420.length co34) : Value).ownBlock) v411 x10_2) ∧ Aside0 (Kd.R (Kd.int .i64) 3 w' w.heap.size (fun k_ => some k_ ≠ ((.slice Ao12 t398.length co12) : Value).ownBlock ∧ some k_ ≠ (v403 : Value).ownBlock ∧ some k_ ≠ (v411 : Value).ownBlock) (.slice Ao34 y420.length co34) x137_2) ∧ Aside0 (Below w.heap.size w w'))
    case atStart => exact ⟨(t398), (t401), (t409), (y420), (0), (by first | rfl | (simp; done) | (simp [*]; done)), H', ⟨Nat.le_refl _⟩, ⟨by (with_reducible repeat (first | apply Kd.R_alloc | apply Kd.R_drewN | apply Kd.R_drew)); exact Kd.R_mono HO_5.out (fun _ hk => ⟨hk.1.1, ⟨hk.1.2, hk.2⟩⟩)⟩, ⟨by (with_reducible repeat (first | apply Kd.R_alloc | apply Kd.R_drewN | apply Kd.R_drew)); exact Kd.R_mono HO_6.out (fun _ hk => ⟨hk.1.1, ⟨hk.1.2, hk.2⟩⟩)⟩, ⟨by (with_reducible repeat (first | apply Kd.R_alloc | apply Kd.R_drewN | apply Kd.R_drew)); exact Kd.R_mono HO_10.out (fun _ hk => ⟨hk.1.1, ⟨hk.1.2, hk.2⟩⟩)⟩, ⟨by (with_reducible repeat (first | apply Kd.R_alloc | apply Kd.R_drewN | apply Kd.R_drew)); exact Kd.R_mono HO422.out (fun _ hk => ⟨hk.1.1.2, ⟨hk.1.2, hk.2⟩⟩)⟩, ⟨xB HB.out⟩⟩
    case round =>
     clear H'
     try clear c29
     try clear c31
     obtain ⟨x5_2, x6_2, x10_2, x137_2, x139_2, rfl, HA, HK2, HO_5, HO_6, HO_10, HO_137, HB⟩ := hrel
     have hl5_2 := (Kd.R_reads' HO_5.out).1
     rw [hl5_2] at HO_5
     (try simp only [hl5_2])
     (try simp only [hl5_2] at HO_6)
     (try simp only [hl5_2] at HO_10)
     (try simp only [hl5_2] at HO_137)
     have hl137_2 := (Kd.R_reads' HO_137.out).1
     rw [hl137_2] at HO_137
     (try simp only [hl137_2])
     (try simp only [hl137_2] at HO_5)
     (try simp only [hl137_2] at HO_6)
     (try simp only [hl137_2] at HO_10)
     cases gk with
     | zero => exact absurd HA.out (by simp [laws_FnTonesFound.l0])
     | succ k2 =>
      have H := HA.out
      clear HA
      simp only [laws_FnTonesFound.l0] at H
      by_cases c35 : x139_2 < (y420.length : Int)
      rotate_left
      ·as_aux_lemma =>
         rw [if_neg c35] at H
         have c35b0 : decide (x139_2 < (y420.length : Int)) = false := decide_eq_false c35
         (try (have c35b5 := c35b0; rw [hl5_2] at c35b5))
         (try (have c35b6 := c35b0; rw [hl137_2] at c35b6))
         clear c35
         (first | rw [c35b0] | (simp only [i64_w, i32_w]; rw [c35b0]) | skip)
         replace H := Option.bind_eq_some_iff.mp H
         obtain ⟨⟨t442, t443⟩, A1270, H⟩ := H
         (try dsimp only at H)
         have A127 := Aside0.mk A1270
         clear A1270
         replace H := Option.bind_eq_some_iff.mp H
         obtain ⟨⟨t444, t445⟩, A1280, H⟩ := H
         (try dsimp only at H)
         have A128 := Aside0.mk A1280
         clear A1280
         replace H := Option.bind_eq_some_iff.mp H
         obtain ⟨⟨t446, t447⟩, A1290, H⟩ := H
         (try dsimp only at H)
         have A129 := Aside0.mk A1290
         clear A1290
         by_cases c130 : t443 = true
         rotate_left
         ·as_aux_lemma =>
           replace c130 := Bool.eq_false_iff.mpr c130
           subst c130
           rw [if_neg (show ¬ (false = true) by decide)] at H
           exact absurd ((Option.some.inj H).trans HRT.out) (by decide)
         subst c130
         rw [if_pos rfl] at H
         by_cases c131 : 1 < (x6_2.length : Int)
         rotate_left
         ·rw [if_neg c131] at H
          exact absurd H (by simp)
         rw [if_pos c131] at H
         have c131b0 : decide (1 < (x6_2.length : Int)) = true := decide_eq_true c131
         (try (have c131b5 := c131b0; rw [hl5_2] at c131b5))
         (try (have c131b6 := c131b0; rw [hl137_2] at c131b6))
         have c131b1 : decide (1 < x6_2.length) = true := decide_eq_true (by omega)
         clear c131
         by_cases c132 : t442 = (rd x6_2 1)
         rotate_left
         ·rw [if_neg c132] at H
          have c132b0 : (t442 == (rd x6_2 1)) = false := beq_eq_false_iff_ne.mpr c132
          have c132b1 : (t442 != (rd x6_2 1)) = true := bne_iff_ne.mpr c132
          exact absurd ((Option.some.inj H).trans HRT.out) (by decide)
         rw [if_pos c132] at H
         have c132b0 : (t442 == (rd x6_2 1)) = true := beq_iff_eq.mpr c132
         have c132b1 : (t442 != (rd x6_2 1)) = false := bne_eq_false_iff_eq.mpr c132
         clear c132
         by_cases c133 : t445 = true
         rotate_left
         ·as_aux_lemma =>
           replace c133 := Bool.eq_false_iff.mpr c133
           subst c133
           rw [if_neg (show ¬ (false = true) by decide)] at H
           exact absurd ((Option.some.inj H).trans HRT.out) (by decide)
         as_aux_lemma =>
          subst c133
          rw [if_pos rfl] at H
          by_cases c134 : 1 < (x10_2.length : Int)
          rotate_left
          ·rw [if_neg c134] at H
           exact absurd H (by simp)
          rw [if_pos c134] at H
          have c134b0 : decide (1 < (x10_2.length : Int)) = true := decide_eq_true c134
          (try (have c134b5 := c134b0; rw [hl5_2] at c134b5))
          (try (have c134b6 := c134b0; rw [hl137_2] at c134b6))
          have c134b1 : decide (1 < x10_2.length) = true := decide_eq_true (by omega)
          clear c134
          by_cases c135 : t444 = (rd x10_2 1)
          rotate_left
          ·rw [if_neg c135] at H
           have c135b0 : (t444 == (rd x10_2 1)) = false := beq_eq_false_iff_ne.mpr c135
           have c135b1 : (t444 != (rd x10_2 1)) = true := bne_iff_ne.mpr c135
           exact absurd ((Option.some.inj H).trans HRT.out) (by decide)
          rw [if_pos c135] at H
          have c135b0 : (t444 == (rd x10_2 1)) = true := beq_iff_eq.mpr c135
          have c135b1 : (t444 != (rd x10_2 1)) = false := bne_eq_false_iff_eq.mpr c135
          clear c135
          by_cases c136 : t447 = true
          rotate_left
          ·replace c136 := Bool.eq_false_iff.mpr c136
           subst c136
           rw [if_neg (show ¬ (false = true) by decide)] at H
           exact absurd ((Option.some.inj H).trans HRT.out) (by decide)
          subst c136
          rw [if_pos rfl] at H
          by_cases c137 : 2 < (x10_2.length : Int)
          rotate_left
          ·rw [if_neg c137] at H
           exact absurd H (by simp)
          rw [if_pos c137] at H
          have c137b0 : decide (2 < (x10_2.length : Int)) = true := decide_eq_true c137
          (try (have c137b5 := c137b0; rw [hl5_2] at c137b5))
          (try (have c137b6 := c137b0; rw [hl137_2] at c137b6))
          have c137b1 : decide (2 < x10_2.length) = true := decide_eq_true (by omega)
          clear c137
          by_cases c138 : t446 = (rd x10_2 2)
          rotate_left
          ·rw [if_neg c138] at H
           have c138b0 : (t446 == (rd x10_2 2)) = false := beq_eq_false_iff_ne.mpr c138
           have c138b1 : (t446 != (rd x10_2 2)) = true := bne_iff_ne.mpr c138
           exact absurd ((Option.some.inj H).trans HRT.out) (by decide)
          rw [if_pos c138] at H
          have c138b0 : (t446 == (rd x10_2 2)) = true := beq_iff_eq.mpr c138
          have c138b1 : (t446 != (rd x10_2 2)) = false := bne_eq_false_iff_eq.mpr c138
          clear c138
          have H' := Aside0.mk H
          clear H
          go_wp2_with (first | (go_at_call 14; (with_reducible refine (impl_TonePower.calls k2 _ _ x5_2 4 t442 true _ ?side1 ?side2 A127.out).mono ?_); (case side1 => exact xC ((Kd.R_reads' HO_5.out).2.2)); (case side2 => exact (Kd.R_reads' HO_5.out).2.1); rintro e w' ⟨rfl, ⟨nd, rfl⟩⟩; (try exact xD)) | (go_at_call 14; (with_reducible refine (impl_TonePower.calls k2 _ _ x5_2 6 t444 true _ ?side1 ?side2 A128.out).mono ?_); (case side1 => exact xC ((Kd.R_reads' HO_5.out).2.2)); (case side2 => exact (Kd.R_reads' HO_5.out).2.1); rintro e w' ⟨rfl, ⟨nd, rfl⟩⟩; (try exact xD)) | (go_at_call 14; (with_reducible refine (impl_TonePower.calls k2 _ _ x5_2 3 t446 true _ ?side1 ?side2 A129.out).mono ?_); (case side1 => exact xC ((Kd.R_reads' HO_5.out).2.2)); (case side2 => exact (Kd.R_reads' HO_5.out).2.1); rintro e w' ⟨rfl, ⟨nd, rfl⟩⟩; (try exact xD); obtain ⟨Ao139, co139, eo139⟩ := Kd.R_slice HO_6.out; subst eo139; have p448 : 0 ≤ (1 : Int) := (by omega); have q448 : 1 < (x6_2.length : Int) := of_decide_eq_true (by first | (with_reducible assumption) | assumption); obtain ⟨ad448, e448, hx448_0⟩ := Kd.at_int (Kd.R_reads' HO_6.out).2.2 1 p448 q448; cases e448; (try simp only [show (1 : Int).toNat = 1 from rfl, Nat.reduceMul, Nat.reduceEqDiff, Go.Addr.add, ↓reduceIte] at hx448_0); have qi448 : (1 < x6_2.length) = True := eq_true (by omega); (try rw [show ((1 : Int)).toNat = 1 from rfl] at hx448_0); replace p448 := eq_true p448; replace q448 := eq_true q448; obtain ⟨Ao140, co140, eo140⟩ := Kd.R_slice HO_10.out; subst eo140; have p449 : 0 ≤ (1 : Int) := (by omega); have q449 : 1 < (x10_2.length : Int) := of_decide_eq_true (by first | (with_reducible assumption) | assumption); obtain ⟨ad449, e449, hx449_0⟩ := Kd.at_int (Kd.R_reads' HO_10.out).2.2 1 p449 q449; cases e449; (try simp only [show (1 : Int).toNat = 1 from rfl, Nat.reduceMul, Nat.reduceEqDiff, Go.Addr.add, ↓reduceIte] at hx449_0); have qi449 : (1 < x10_2.length) = True := eq_true (by omega); (try rw [show ((1 : Int)).toNat = 1 from rfl] at hx449_0); replace p449 := eq_true p449; replace q449 := eq_true q449; have p450 : 0 ≤ (2 : Int) := (by omega); have q450 : 2 < (x10_2.length : Int) := of_decide_eq_true (by first | (with_reducible assumption) | assumption); obtain ⟨ad450, e450, hx450_0⟩ := Kd.at_int (Kd.R_reads' HO_10.out).2.2 2 p450 q450; obtain rfl : ad449 = ad450 := (by injection e450); (try simp only [show (2 : Int).toNat = 2 from rfl, Nat.reduceMul, Nat.reduceEqDiff, Go.Addr.add, ↓reduceIte] at hx450_0); have qi450 : (2 < x10_2.length) = True := eq_true (by omega); (try rw [show ((2 : Int)).toNat = 2 from rfl] at hx450_0); replace p450 := eq_true p450; replace q450 := eq_true q450))
          repeat (go_quiet (first | (go_at_call 14; (with_reducible refine (impl_TonePower.calls k2 _ _ x5_2 4 t442 true _ ?side1 ?side2 A127.out).mono ?_); (case side1 => exact xC ((Kd.R_reads' HO_5.out).2.2)); (case side2 => exact (Kd.R_reads' HO_5.out).2.1); rintro e w' ⟨rfl, ⟨nd, rfl⟩⟩; (try exact xD)) | (go_at_call 14; (with_reducible refine (impl_TonePower.calls k2 _ _ x5_2 6 t444 true _ ?side1 ?side2 A128.out).mono ?_); (case side1 => exact xC ((Kd.R_reads' HO_5.out).2.2)); (case side2 => exact (Kd.R_reads' HO_5.out).2.1); rintro e w' ⟨rfl, ⟨nd, rfl⟩⟩; (try exact xD)) | (go_at_call 14; (with_reducible refine (impl_TonePower.calls k2 _ _ x5_2 3 t446 true _ ?side1 ?side2 A129.out).mono ?_); (case side1 => exact xC ((Kd.R_reads' HO_5.out).2.2)); (case side2 => exact (Kd.R_reads' HO_5.out).2.1); rintro e w' ⟨rfl, ⟨nd, rfl⟩⟩; (try exact xD); obtain ⟨Ao139, co139, eo139⟩ := Kd.R_slice HO_6.out; subst eo139; have p448 : 0 ≤ (1 : Int) := (by omega); have q448 : 1 < (x6_2.length : Int) := of_decide_eq_true (by first | (with_reducible assumption) | assumption); obtain ⟨ad448, e448, hx448_0⟩ := Kd.at_int (Kd.R_reads' HO_6.out).2.2 1 p448 q448; cases e448; (try simp only [show (1 : Int).toNat = 1 from rfl, Nat.reduceMul, Nat.reduceEqDiff, Go.Addr.add, ↓reduceIte] at hx448_0); have qi448 : (1 < x6_2.length) = True := eq_true (by omega); (try rw [show ((1 : Int)).toNat = 1 from rfl] at hx448_0); replace p448 := eq_true p448; replace q448 := eq_true q448; obtain ⟨Ao140, co140, eo140⟩ := Kd.R_slice HO_10.out; subst eo140; have p449 : 0 ≤ (1 : Int) := (by omega); have q449 : 1 < (x10_2.length : Int) := of_decide_eq_true (by first | (with_reducible assumption) | assumption); obtain ⟨ad449, e449, hx449_0⟩ := Kd.at_int (Kd.R_reads' HO_10.out).2.2 1 p449 q449; cases e449; (try simp only [show (1 : Int).toNat = 1 from rfl, Nat.reduceMul, Nat.reduceEqDiff, Go.Addr.add, ↓reduceIte] at hx449_0); have qi449 : (1 < x10_2.length) = True := eq_true (by omega); (try rw [show ((1 : Int)).toNat = 1 from rfl] at hx449_0); replace p449 := eq_true p449; replace q449 := eq_true q449; have p450 : 0 ≤ (2 : Int) := (by omega); have q450 : 2 < (x10_2.length : Int) := of_decide_eq_true (by first | (with_reducible assumption) | assumption); obtain ⟨ad450, e450, hx450_0⟩ := Kd.at_int (Kd.R_reads' HO_10.out).2.2 2 p450 q450; obtain rfl : ad449 = ad450 := (by injection e450); (try simp only [show (2 : Int).toNat = 2 from rfl, Nat.reduceMul, Nat.reduceEqDiff, Go.Addr.add, ↓reduceIte] at hx450_0); have qi450 : (2 < x10_2.length) = True := eq_true (by omega); (try rw [show ((2 : Int)).toNat = 2 from rfl] at hx450_0); replace p450 := eq_true p450; replace q450 := eq_true q450)); try go_wp2_with (first | (go_at_call 14; (with_reducible refine (impl_TonePower.calls k2 _ _ x5_2 4 t442 true _ ?side1 ?side2 A127.out).mono ?_); (case side1 => exact xC ((Kd.R_reads' HO_5.out).2.2)); (case side2 => exact (Kd.R_reads' HO_5.out).2.1); rintro e w' ⟨rfl, ⟨nd, rfl⟩⟩; (try exact xD)) | (go_at_call 14; (with_reducible refine (impl_TonePower.calls k2 _ _ x5_2 6 t444 true _ ?side1 ?side2 A128.out).mono ?_); (case side1 => exact xC ((Kd.R_reads' HO_5.out).2.2)); (case side2 => exact (Kd.R_reads' HO_5.out).2.1); rintro e w' ⟨rfl, ⟨nd, rfl⟩⟩; (try exact xD)) | (go_at_call 14; (with_reducible refine (impl_TonePower.calls k2 _ _ x5_2 3 t446 true _ ?side1 ?side2 A129.out).mono ?_); (case side1 => exact xC ((Kd.R_reads' HO_5.out).2.2)); (case side2 => exact (Kd.R_reads' HO_5.out).2.1); rintro e w' ⟨rfl, ⟨nd, rfl⟩⟩; (try exact xD); obtain ⟨Ao139, co139, eo139⟩ := Kd.R_slice HO_6.out; subst eo139; have p448 : 0 ≤ (1 : Int) := (by omega); have q448 : 1 < (x6_2.length : Int) := of_decide_eq_true (by first | (with_reducible assumption) | assumption); obtain ⟨ad448, e448, hx448_0⟩ := Kd.at_int (Kd.R_reads' HO_6.out).2.2 1 p448 q448; cases e448; (try simp only [show (1 : Int).toNat = 1 from rfl, Nat.reduceMul, Nat.reduceEqDiff, Go.Addr.add, ↓reduceIte] at hx448_0); have qi448 : (1 < x6_2.length) = True := eq_true (by omega); (try rw [show ((1 : Int)).toNat = 1 from rfl] at hx448_0); replace p448 := eq_true p448; replace q448 := eq_true q448; obtain ⟨Ao140, co140, eo140⟩ := Kd.R_slice HO_10.out; subst eo140; have p449 : 0 ≤ (1 : Int) := (by omega); have q449 : 1 < (x10_2.length : Int) := of_decide_eq_true (by first | (with_reducible assumption) | assumption); obtain ⟨ad449, e449, hx449_0⟩ := Kd.at_int (Kd.R_reads' HO_10.out).2.2 1 p449 q449; cases e449; (try simp only [show (1 : Int).toNat = 1 from rfl, Nat.reduceMul, Nat.reduceEqDiff, Go.Addr.add, ↓reduceIte] at hx449_0); have qi449 : (1 < x10_2.length) = True := eq_true (by omega); (try rw [show ((1 : Int)).toNat = 1 from rfl] at hx449_0); replace p449 := eq_true p449; replace q449 := eq_true q449; have p450 : 0 ≤ (2 : Int) := (by omega); have q450 : 2 < (x10_2.length : Int) := of_decide_eq_true (by first | (with_reducible assumption) | assumption); obtain ⟨ad450, e450, hx450_0⟩ := Kd.at_int (Kd.R_reads' HO_10.out).2.2 2 p450 q450; obtain rfl : ad449 = ad450 := (by injection e450); (try simp only [show (2 : Int).toNat = 2 from rfl, Nat.reduceMul, Nat.reduceEqDiff, Go.Addr.add, ↓reduceIte] at hx450_0); have qi450 : (2 < x10_2.length) = True := eq_true (by omega); (try rw [show ((2 : Int)).toNat = 2 from rfl] at hx450_0); replace p450 := eq_true p450; replace q450 := eq_true q450)))
          (try simp only [← hl5_2, ← hl137_2])
          go_meet
          case rel => exact ⟨_, H', ⟨by have := HJ9.out; have := HK2.out; first | omega | exact Nat.le_refl _⟩, ⟨xB HB.out⟩⟩
      rw [if_pos c35] at H
      have c35b0 : decide (x139_2 < (y420.length : Int)) = true := decide_eq_true c35
      (try (have c35b5 := c35b0; rw [hl5_2] at c35b5))
      (try (have c35b6 := c35b0; rw [hl137_2] at c35b6))
      clear c35
      (first | rw [c35b0] | (simp only [i64_w, i32_w]; rw [c35b0]) | skip)
      by_cases c36 : 0 ≤ x139_2
      rotate_left
      ·rw [if_neg c36] at H
       exact absurd H (by simp)
      rw [if_pos c36] at H
      have c36b0 : decide (0 ≤ x139_2) = true := decide_eq_true c36
      clear c36
      by_cases c37 : x139_2 < (x137_2.length : Int)
      rotate_left
      ·rw [if_neg c37] at H
       exact absurd H (by simp)
      rw [if_pos c37] at H
      have c37b0 : decide (x139_2 < (x137_2.length : Int)) = true := decide_eq_true c37
      (try (have c37b5 := c37b0; rw [hl5_2] at c37b5))
      (try (have c37b6 := c37b0; rw [hl137_2] at c37b6))
      clear c37
      by_cases c38 : (rd x137_2 x139_2) = 6
      rotate_left
      ·as_aux_lemma =>
         rw [if_neg c38] at H
         have c38b0 : ((rd x137_2 x139_2) == 6) = false := beq_eq_false_iff_ne.mpr c38
         have c38b1 : ((rd x137_2 x139_2) != 6) = true := bne_iff_ne.mpr c38
         by_cases c83 : 0 ≤ (rd x137_2 x139_2)
         rotate_left
         ·rw [if_neg c83] at H
          exact absurd H (by simp)
         rw [if_pos c83] at H
         have c83b0 := eq_true c83
         have c83b1 : decide (0 ≤ (rd x137_2 x139_2)) = true := decide_eq_true c83
         clear c83
         by_cases c84 : (rd x137_2 x139_2 : Int).toNat ≤ 35184372088832
         rotate_left
         ·rw [if_neg c84] at H
          exact absurd H (by simp)
         rw [if_pos c84] at H
         have c84b0 := eq_true c84
         have c84b1 : decide ((rd x137_2 x139_2 : Int).toNat ≤ 35184372088832) = true := decide_eq_true c84
         clear c84
         obtain ⟨y439, hy439⟩ : ∃ y_ : List Int, y_ = (List.replicate (rd x137_2 x139_2 : Int).toNat 0) := ⟨_, rfl⟩
         replace H : (laws_FnTonesFound.l1 k2 l1 x5_2 x6_2 x10_2 (rd x137_2 x139_2) x6_2 y439 x137_2 (y420.length : Int) x139_2 x5_2 (x5_2.length : Int) 0) = some r := by first | (rw [hy439]; with_reducible exact H) | (have H2_ := (Option.bind_some _ _).symm.trans H; rw [hy439]; with_reducible exact H2_) | (have H2_ := (Option.bind_some _ _).symm.trans H; with_reducible exact H2_) | with_reducible exact H | (rw [hy439]; exact H) | exact H
         have Ny439 := Aside0.mk hy439
         clear hy439
         have H' := Aside0.mk H
         clear H
         have p423 : 0 ≤ (x139_2 : Int) := of_decide_eq_true (by first | (with_reducible assumption) | assumption)
         have q423 : x139_2 < (x137_2.length : Int) := of_decide_eq_true (by first | (with_reducible assumption) | assumption)
         obtain ⟨ad423, e423, hx423_0⟩ := Kd.at_int (Kd.R_reads' HO_137.out).2.2 x139_2 p423 q423
         cases e423
         replace p423 := eq_true p423
         replace q423 := eq_true q423
         go_wp2_with (first | ((with_reducible refine gate_dst (N := 148) rfl ?_); refine Kd.R_make (Kd.int .i64) _ 3 rfl (N := 148) rfl 24 _ _ rfl (rd x137_2 x139_2) rfl rfl Tryd.underlying24 (.int .i64 0) 8 info3 rfl (by decide) (by omega) 0 (ok := fun _ => True) (okp := fun _ => True) rfl (fun _ hk => hk) trivial (of_decide_eq_true (by first | (with_reducible assumption) | assumption)) (Nat.le_trans (Nat.mul_le_mul_right _ (of_decide_eq_true (by first | (with_reducible assumption) | assumption) : (rd x137_2 x139_2).toNat ≤ 35184372088832)) (by omega)) (Below.refl _ _) (Nat.le_refl _) ?_; intro v440 w85 ho86 hb hg_ hnew_; clear hg_ hnew_; (first | rw [← Ny439.out] at ho86 | (simp only [Int.reduceToNat] at ho86; rw [← Ny439.out] at ho86)); have HO441 := Aside0.mk (Kd.R_lower (Kd.R_new' (Kd.R_new' (Kd.R_new' (Kd.R_new' ho86 (Kd.R_lt (xR HO_5.out))) (Kd.R_lt (xR HO_6.out))) (Kd.R_lt (xR HO_10.out))) (Kd.R_lt (xR HO_137.out))) (below_size (xB HB.out))); replace HO_5 := Aside0.mk (Kd.R_elder' (xR HO_5.out) (Kd.R_base ho86) hb); replace HO_6 := Aside0.mk (Kd.R_elder' (xR HO_6.out) (Kd.R_base ho86) hb); replace HO_10 := Aside0.mk (Kd.R_elder' (xR HO_10.out) (Kd.R_base ho86) hb); replace HO_137 := Aside0.mk (Kd.R_elder' (xR HO_137.out) (Kd.R_base ho86) hb); replace HB := Aside0.mk (below_step (xB HB.out) hb); clear hb ho86))
         repeat (go_quiet (first | ((with_reducible refine gate_dst (N := 148) rfl ?_); refine Kd.R_make (Kd.int .i64) _ 3 rfl (N := 148) rfl 24 _ _ rfl (rd x137_2 x139_2) rfl rfl Tryd.underlying24 (.int .i64 0) 8 info3 rfl (by decide) (by omega) 0 (ok := fun _ => True) (okp := fun _ => True) rfl (fun _ hk => hk) trivial (of_decide_eq_true (by first | (with_reducible assumption) | assumption)) (Nat.le_trans (Nat.mul_le_mul_right _ (of_decide_eq_true (by first | (with_reducible assumption) | assumption) : (rd x137_2 x139_2).toNat ≤ 35184372088832)) (by omega)) (Below.refl _ _) (Nat.le_refl _) ?_; intro v440 w85 ho86 hb hg_ hnew_; clear hg_ hnew_; (first | rw [← Ny439.out] at ho86 | (simp only [Int.reduceToNat] at ho86; rw [← Ny439.out] at ho86)); have HO441 := Aside0.mk (Kd.R_lower (Kd.R_new' (Kd.R_new' (Kd.R_new' (Kd.R_new' ho86 (Kd.R_lt (xR HO_5.out))) (Kd.R_lt (xR HO_6.out))) (Kd.R_lt (xR HO_10.out))) (Kd.R_lt (xR HO_137.out))) (below_size (xB HB.out))); replace HO_5 := Aside0.mk (Kd.R_elder' (xR HO_5.out) (Kd.R_base ho86) hb); replace HO_6 := Aside0.mk (Kd.R_elder' (xR HO_6.out) (Kd.R_base ho86) hb); replace HO_10 := Aside0.mk (Kd.R_elder' (xR HO_10.out) (Kd.R_base ho86) hb); replace HO_137 := Aside0.mk (Kd.R_elder' (xR HO_137.out) (Kd.R_base ho86) hb); replace HB := Aside0.mk (below_step (xB HB.out) hb); clear hb ho86)); try go_wp2_with (first | ((with_reducible refine gate_dst (N := 148) rfl ?_); refine Kd.R_make (Kd.int .i64) _ 3 rfl (N := 148) rfl 24 _ _ rfl (rd x137_2 x139_2) rfl rfl Tryd.underlying24 (.int .i64 0) 8 info3 rfl (by decide) (by omega) 0 (ok := fun _ => True) (okp := fun _ => True) rfl (fun _ hk => hk) trivial (of_decide_eq_true (by first | (with_reducible assumption) | assumption)) (Nat.le_trans (Nat.mul_le_mul_right _ (of_decide_eq_true (by first | (with_reducible assumption) | assumption) : (rd x137_2 x139_2).toNat ≤ 35184372088832)) (by omega)) (Below.refl _ _) (Nat.le_refl _) ?_; intro v440 w85 ho86 hb hg_ hnew_; clear hg_ hnew_; (first | rw [← Ny439.out] at ho86 | (simp only [Int.reduceToNat] at ho86; rw [← Ny439.out] at ho86)); have HO441 := Aside0.mk (Kd.R_lower (Kd.R_new' (Kd.R_new' (Kd.R_new' (Kd.R_new' ho86 (Kd.R_lt (xR HO_5.out))) (Kd.R_lt (xR HO_6.out))) (Kd.R_lt (xR HO_10.out))) (Kd.R_lt (xR HO_137.out))) (below_size (xB HB.out))); replace HO_5 := Aside0.mk (Kd.R_elder' (xR HO_5.out) (Kd.R_base ho86) hb); replace HO_6 := Aside0.mk (Kd.R_elder' (xR HO_6.out) (Kd.R_base ho86) hb); replace HO_10 := Aside0.mk (Kd.R_elder' (xR HO_10.out) (Kd.R_base ho86) hb); replace HO_137 := Aside0.mk (Kd.R_elder' (xR HO_137.out) (Kd.R_base ho86) hb); replace HB := Aside0.mk (below_step (xB HB.out) hb); clear hb ho86)))
         go_loopg [151] k2 (fun kq v151 w' => ∃ (x17_3 : List Int) (x151_3 : Int), v151 = .int .i64 x151_3 ∧ Aside0 (laws_FnTonesFound.l1 kq l1 x5_2 x6_2 x10_2 (rd x137_2 x139_2) x6_2 x17_3 x137_2 (y420.length : Int) x139_2 x5_2 (x5_2.length : Int) x151_3 = some r) ∧ Aside0 (kq ≤ k2) ∧ Aside0 (Kd.R (Kd.int .i64) 3 w' w.heap.size (fun k_ => some k_ ≠ (v403 : Value).ownBlock ∧ some k_ ≠ (v411 : Value).ownBlock ∧ some k_ ≠ (v403 : Value).ownBlock ∧ some k_ ≠ (v440 : Value).ownBlock ∧ some k_ ≠ ((.slice (some ad423) x137_2.length co34) : Value).ownBlock) (.slice Ao12 x5_2.length co12) x5_2) ∧ Aside0 (Kd.R (Kd.int .i64) 3 w' w.heap.size (fun k_ => some k_ ≠ ((.slice Ao12 x5_2.length co12) : Value).ownBlock ∧ some k_ ≠ (v411 : Value).ownBlock ∧ some k_ ≠ (v440 : Value).ownBlock ∧ some k_ ≠ ((.slice (some ad423) x137_2.length co34) : Value).ownBlock ∧ some k_ ≠ ((.slice Ao12 x5_2.length co12) : Value).ownBlock) v403 x6_2) ∧ Aside0 (Kd.R (Kd.int .i64) 3 w' w.heap.size (fun k_ => some k_ ≠ ((.slice Ao12 x5_2.length co12) : Value).ownBlock ∧ some k_ ≠ (v403 : Value).ownBlock ∧ some k_ ≠ (v403 : Value).ownBlock ∧ some k_ ≠ (v440 : Value).ownBlock ∧ some k_ ≠ ((.slice (some ad423) x137_2.length co34) : Value).ownBlock ∧ some k_ ≠ ((.slice Ao12 x5_2.length co12) : Value).ownBlock) v411 x10_2) ∧ Aside0 (Kd.R (Kd.int .i64) 3 w' w.heap.size (fun k_ => some k_ ≠ ((.slice Ao12 x5_2.length co12) : Value).ownBlock ∧ some k_ ≠ (v411 : Value).ownBlock ∧ some k_ ≠ (v440 : Value).ownBlock ∧ some k_ ≠ ((.slice (some ad423) x137_2.length co34) : Value).ownBlock ∧ some k_ ≠ ((.slice Ao12 x5_2.length co12) : Value).ownBlock) v403 x6_2) ∧ Aside0 (Kd.R (Kd.int .i64) 3 w' w.heap.size (fun k_ => some k_ ≠ ((.slice Ao12 x5_2.length co12) : Value).ownBlock ∧ some k_ ≠ (v403 : Value).ownBlock ∧ some k_ ≠ (v411 : Value).ownBlock ∧ some k_ ≠ (v403 : Value).ownBlock ∧ some k_ ≠ ((.slice (some ad423) x137_2.length co34) : Value).ownBlock ∧ some k_ ≠ ((.slice Ao12 x5_2.length co12) : Value).ownBlock) v440 x17_3) ∧ Aside0 (Kd.R (Kd.int .i64) 3 w' w.heap.size (fun k_ => some k_ ≠ ((.slice Ao12 x5_2.length co12) : Value).ownBlock ∧ some k_ ≠ (v403 : Value).ownBlock ∧ some k_ ≠ (v411 : Value).ownBlock ∧ some k_ ≠ (v403 : Value).ownBlock ∧ some k_ ≠ (v440 : Value).ownBlock ∧ some k_ ≠ ((.slice Ao12 x5_2.length co12) : Value).ownBlock) (.slice (some ad423) x137_2.length co34) x137_2) ∧ Aside0 (Kd.R (Kd.int .i64) 3 w' w.heap.size (fun k_ => some k_ ≠ (v403 : Value).ownBlock ∧ some k_ ≠ (v411 : Value).ownBlock ∧ some k_ ≠ (v403 : Value).ownBlock ∧ some k_ ≠ (v440 : Value).ownBlock ∧ some k_ ≠ ((.slice (some ad423) x137_2.length co34) : Value).ownBlock) (.slice Ao12 x5_2.length co12) x5_2) ∧ Aside0 (Below w.heap.size w w'))
         case atStart => exact ⟨(y439), (0), (by first | rfl | (simp; done) | (simp [*]; done)), H', ⟨Nat.le_refl _⟩, ⟨by (try simp only [hl5_2]); (try simp only [hl137_2]); (with_reducible repeat (first | apply Kd.R_alloc | apply Kd.R_drewN | apply Kd.R_drew)); exact Kd.R_mono HO_5.out (fun _ hk => ⟨hk.1.1, ⟨hk.1.2.1, ⟨hk.1.1, ⟨hk.2, hk.1.2.2⟩⟩⟩⟩)⟩, ⟨by (try simp only [hl5_2]); (try simp only [hl137_2]); (with_reducible repeat (first | apply Kd.R_alloc | apply Kd.R_drewN | apply Kd.R_drew)); exact Kd.R_mono HO_6.out (fun _ hk => ⟨hk.1.1, ⟨hk.1.2.1, ⟨hk.2, ⟨hk.1.2.2, hk.1.1⟩⟩⟩⟩)⟩, ⟨by (try simp only [hl5_2]); (try simp only [hl137_2]); (with_reducible repeat (first | apply Kd.R_alloc | apply Kd.R_drewN | apply Kd.R_drew)); exact Kd.R_mono HO_10.out (fun _ hk => ⟨hk.1.1, ⟨hk.1.2.1, ⟨hk.1.2.1, ⟨hk.2, ⟨hk.1.2.2, hk.1.1⟩⟩⟩⟩⟩)⟩, ⟨by (try simp only [hl5_2]); (try simp only [hl137_2]); (with_reducible repeat (first | apply Kd.R_alloc | apply Kd.R_drewN | apply Kd.R_drew)); exact Kd.R_mono HO_6.out (fun _ hk => ⟨hk.1.1, ⟨hk.1.2.1, ⟨hk.2, ⟨hk.1.2.2, hk.1.1⟩⟩⟩⟩)⟩, ⟨by (try simp only [hl5_2]); (try simp only [hl137_2]); (with_reducible repeat (first | apply Kd.R_alloc | apply Kd.R_drewN | apply Kd.R_drew)); exact Kd.R_mono HO441.out (fun _ hk => ⟨hk.1.1.1.2, ⟨hk.1.1.2, ⟨hk.1.2, ⟨hk.1.1.2, ⟨hk.2, hk.1.1.1.2⟩⟩⟩⟩⟩)⟩, ⟨by (try simp only [hl5_2]); (try simp only [hl137_2]); (with_reducible repeat (first | apply Kd.R_alloc | apply Kd.R_drewN | apply Kd.R_drew)); exact Kd.R_mono HO_137.out (fun _ hk => ⟨hk.1.1, ⟨hk.1.2.1, ⟨hk.1.2.2, ⟨hk.1.2.1, ⟨hk.2, hk.1.1⟩⟩⟩⟩⟩)⟩, ⟨by (try simp only [hl5_2]); (try simp only [hl137_2]); (with_reducible repeat (first | apply Kd.R_alloc | apply Kd.R_drewN | apply Kd.R_drew)); exact Kd.R_mono HO_5.out (fun _ hk => ⟨hk.1.1, ⟨hk.1.2.1, ⟨hk.1.1, ⟨hk.2, hk.1.2.2⟩⟩⟩⟩)⟩, ⟨xB HB.out⟩⟩
         case round =>
          clear H'
          try clear c35b0
          try clear c36b0
          try clear c37b0
          try clear c38
          try clear c38b0
          try clear c38b1
          try clear c83b0
          try clear c83b1
          try clear c84b0
          try clear c84b1
          try clear hx423_0
          try clear p423
          try clear q423
          obtain ⟨x17_3, x151_3, rfl, HA, HK3, HO_5, HO_6, HO_10, HO_16, HO_17, HO_137, HO_149, HB⟩ := hrel
          cases gk with
          | zero => exact absurd HA.out (by simp [laws_FnTonesFound.l1])
          | succ k3 =>
           have H := HA.out
           clear HA
           simp only [laws_FnTonesFound.l1] at H
           by_cases c87 : x151_3 < (x5_2.length : Int)
           ·as_aux_lemma =>
              rw [if_pos c87] at H
              have c87b0 : decide (x151_3 < (x5_2.length : Int)) = true := decide_eq_true c87
              (try (have c87b5 := c87b0; rw [hl5_2] at c87b5))
              (try (have c87b6 := c87b0; rw [hl137_2] at c87b6))
              clear c87
              by_cases c88 : 0 ≤ x151_3
              rotate_left
              ·rw [if_neg c88] at H
               exact absurd H (by simp)
              rw [if_pos c88] at H
              have c88b0 : decide (0 ≤ x151_3) = true := decide_eq_true c88
              clear c88
              by_cases c89 : x151_3 < (x5_2.length : Int)
              rotate_left
              ·rw [if_neg c89] at H
               exact absurd H (by simp)
              as_aux_lemma =>
               rw [if_pos c89] at H
               have c89b0 : decide (x151_3 < (x5_2.length : Int)) = true := decide_eq_true c89
               (try (have c89b5 := c89b0; rw [hl5_2] at c89b5))
               (try (have c89b6 := c89b0; rw [hl137_2] at c89b6))
               clear c89
               by_cases c90 : (rd x137_2 x139_2) = 0
               ·rw [if_pos c90] at H
                exact absurd H (by simp)
               rw [if_neg c90] at H
               have c90b0 : ((rd x137_2 x139_2) == 0) = false := beq_eq_false_iff_ne.mpr c90
               have c90b1 : ((rd x137_2 x139_2) != 0) = true := bne_iff_ne.mpr c90
               obtain ⟨ji91, hji91⟩ : ∃ j_ : Int, (Int.tmod x151_3 (rd x137_2 x139_2)) = j_ := ⟨_, rfl⟩
               replace H : (if 0 ≤ (ji91) then (if (ji91) < (x17_3.length : Int) then (laws_FnTonesFound.l1 k3 l1 x5_2 x6_2 x10_2 (rd x137_2 x139_2) x6_2 (x17_3.set ((ji91) : Int).toNat (wrap64 ((rd x17_3 (ji91)) + (rd x5_2 x151_3)))) x137_2 (y420.length : Int) x139_2 x5_2 (x5_2.length : Int) (wrap64 (x151_3 + 1))) else (none)) else (none)) = some r := by first | (rw [hji91] at H; exact H) | (simp only [hji91] at H ⊢; exact H)
               by_cases c92 : 0 ≤ (ji91)
               rotate_left
               ·rw [if_neg c92] at H
                exact absurd H (by simp)
               rw [if_pos c92] at H
               have c92b0 : decide (0 ≤ (ji91)) = true := decide_eq_true c92
               clear c92
               by_cases c93 : (ji91) < (x17_3.length : Int)
               rotate_left
               ·rw [if_neg c93] at H
                exact absurd H (by simp)
               rw [if_pos c93] at H
               have c93b0 : decide ((ji91) < (x17_3.length : Int)) = true := decide_eq_true c93
               (try (have c93b5 := c93b0; rw [hl5_2] at c93b5))
               (try (have c93b6 := c93b0; rw [hl137_2] at c93b6))
               clear c93
               obtain ⟨y429, hy429⟩ : ∃ y_ : List Int, y_ = (x17_3.set ((ji91) : Int).toNat (wrap64 ((rd x17_3 (ji91)) + (rd x5_2 x151_3)))) := ⟨_, rfl⟩
               replace H : (laws_FnTonesFound.l1 k3 l1 x5_2 x6_2 x10_2 (rd x137_2 x139_2) x6_2 y429 x137_2 (y420.length : Int) x139_2 x5_2 (x5_2.length : Int) (wrap64 (x151_3 + 1))) = some r := by first | (rw [hy429]; with_reducible exact H) | (have H2_ := (Option.bind_some _ _).symm.trans H; rw [hy429]; with_reducible exact H2_) | (have H2_ := (Option.bind_some _ _).symm.trans H; with_reducible exact H2_) | with_reducible exact H | (rw [hy429]; exact H) | exact H
               have Ny429 := Aside0.mk hy429
               clear hy429
               have H' := Aside0.mk H
               clear H
               have p427 : 0 ≤ (x151_3 : Int) := of_decide_eq_true (by first | (with_reducible assumption) | assumption)
               have q427 : x151_3 < (x5_2.length : Int) := of_decide_eq_true (by first | (with_reducible assumption) | assumption)
               obtain ⟨ad427, e427, hx427_0⟩ := Kd.at_int (Kd.R_reads' HO_149.out).2.2 x151_3 p427 q427
               cases e427
               replace p427 := eq_true p427
               replace q427 := eq_true q427
               obtain ⟨Ao95, co95, eo95⟩ := Kd.R_slice HO_17.out
               subst eo95
               have p428 : 0 ≤ ((ji91) : Int) := of_decide_eq_true (by first | (with_reducible assumption) | assumption | (rw [← hji91]; first | (with_reducible assumption) | assumption))
               have q428 : (ji91) < (x17_3.length : Int) := of_decide_eq_true (by first | (with_reducible assumption) | assumption | (rw [← hji91]; first | (with_reducible assumption) | assumption))
               obtain ⟨ad428, e428, hx428_0⟩ := Kd.at_int (Kd.R_reads' HO_17.out).2.2 (ji91) p428 q428
               cases e428
               replace p428 := eq_true p428
               replace q428 := eq_true q428
               have p94 : 0 ≤ ((ji91) : Int) := of_decide_eq_true (by first | (with_reducible assumption) | assumption | (rw [← hji91]; first | (with_reducible assumption) | assumption))
               have q94 : ((ji91) : Int) < ((x17_3.length : Int) : Int) := of_decide_eq_true (by first | (with_reducible assumption) | assumption | (rw [← hji91]; first | (with_reducible assumption) | assumption))
               obtain ⟨go94, co94, eo94, gb94, gl94, cl94, HG94⟩ := Kd.R_form HO_17.out (by omega)
               (first | cases eo94 | (injection eo94 with ea_ en_ ec_; (first | subst ea_ | (injection ea_ with ea_; subst ea_)); subst ec_; clear en_))
               have GB94 := Aside0.mk gb94
               have GG94 := Aside0.mk HG94
               clear gb94 gl94 HG94
               (first | simp only [add_plain] at hx428_0 | skip)
               obtain ⟨hx94_0, hf94_0⟩ := Kd.R_celln 0 HO_17.out ((ji91) : Int) p94 q94
               replace p94 := eq_true p94
               replace q94 := eq_true q94
               have HP96 := Kd.R_putg HO_17.out ((ji91) : Int) (wrap64 ((rd x17_3 (ji91)) + (rd x5_2 x151_3)))
               go_wp2_with (first | ((with_reducible refine gate_store (t := 3) (p := 164) rfl ?_); (try (rw [drewN_self wr]; generalize hq_ : World.drewN wr _ = wr; replace HO_5 := Aside0.mk (Kd.R_at hq_ HO_5.out); replace HO_6 := Aside0.mk (Kd.R_at hq_ HO_6.out); replace HO_10 := Aside0.mk (Kd.R_at hq_ HO_10.out); replace HO_16 := Aside0.mk (Kd.R_at hq_ HO_16.out); replace HO_17 := Aside0.mk (Kd.R_at hq_ HO_17.out); replace HO_137 := Aside0.mk (Kd.R_at hq_ HO_137.out); replace HO_149 := Aside0.mk (Kd.R_at hq_ HO_149.out); replace HB := Aside0.mk (below_at hq_ HB.out); clear hq_; (try (have HP96 := Kd.R_putg HO_17.out ((ji91) : Int) (wrap64 ((rd x17_3 (ji91)) + (rd x5_2 x151_3))))))); refine store_event (t := 3) (p := 164) (v := ?vo_w97) (w1 := (wr.setCell ⟨go94, ((ji91) : Int).toNat, none⟩ (.int .i64 (wrap64 ((rd x17_3 (ji91)) + (rd x5_2 x151_3)))))) ?hg ?ho ?hn ?hr ?_; (case ho => rfl); (case hg => rfl); (case hn => rfl); (case hr => first | (go_simp; done) | (go_simp; rfl)); intro w97 hw; have hg : wr.grownBy w97 (some go94) := (by rw [hw]; exact HP96.2); have hp_ : Kd.R (Kd.int .i64) 3 w97 w.heap.size (fun k_ => some k_ ≠ (.slice (some ad427) x5_2.length co12 : Value).ownBlock ∧ some k_ ≠ (v403 : Value).ownBlock ∧ some k_ ≠ (v411 : Value).ownBlock ∧ some k_ ≠ (v403 : Value).ownBlock ∧ some k_ ≠ (.slice (some ad423) x137_2.length co34 : Value).ownBlock ∧ some k_ ≠ (.slice (some ad427) x5_2.length co12 : Value).ownBlock) (.slice (some ⟨go94, 0, none⟩) x17_3.length co95) y429 := (by rw [hw, Ny429.out]; exact HP96.1); clear HP96; replace HO_5 := Aside0.mk (Kd.R_after (v := (.slice (some ⟨go94, 0, none⟩) x17_3.length co95)) (v1 := (.slice (some ⟨go94, 0, none⟩) x17_3.length co95)) (ok := (fun k_ => some k_ ≠ (v403 : Value).ownBlock ∧ some k_ ≠ (v411 : Value).ownBlock ∧ some k_ ≠ (v403 : Value).ownBlock ∧ some k_ ≠ (.slice (some ad423) x137_2.length co34 : Value).ownBlock)) (by (with_reducible repeat (first | apply Kd.R_alloc | apply Kd.R_drewN | apply Kd.R_drew)); exact Kd.R_mono HO_5.out (fun _ hk => ⟨⟨hk.1, ⟨hk.2.1, ⟨hk.2.2.1, hk.2.2.2.2⟩⟩⟩, hk.2.2.2.1⟩)) hg (.inl rfl)); replace HO_6 := Aside0.mk (Kd.R_after (v := (.slice (some ⟨go94, 0, none⟩) x17_3.length co95)) (v1 := (.slice (some ⟨go94, 0, none⟩) x17_3.length co95)) (ok := (fun k_ => some k_ ≠ (.slice (some ad427) x5_2.length co12 : Value).ownBlock ∧ some k_ ≠ (v411 : Value).ownBlock ∧ some k_ ≠ (.slice (some ad423) x137_2.length co34 : Value).ownBlock ∧ some k_ ≠ (.slice (some ad427) x5_2.length co12 : Value).ownBlock)) (by (with_reducible repeat (first | apply Kd.R_alloc | apply Kd.R_drewN | apply Kd.R_drew)); exact Kd.R_mono HO_6.out (fun _ hk => ⟨⟨hk.1, ⟨hk.2.1, ⟨hk.2.2.2.1, hk.2.2.2.2⟩⟩⟩, hk.2.2.1⟩)) hg (.inl rfl)); replace HO_10 := Aside0.mk (Kd.R_after (v := (.slice (some ⟨go94, 0, none⟩) x17_3.length co95)) (v1 := (.slice (some ⟨go94, 0, none⟩) x17_3.length co95)) (ok := (fun k_ => some k_ ≠ (.slice (some ad427) x5_2.length co12 : Value).ownBlock ∧ some k_ ≠ (v403 : Value).ownBlock ∧ some k_ ≠ (v403 : Value).ownBlock ∧ some k_ ≠ (.slice (some ad423) x137_2.length co34 : Value).ownBlock ∧ some k_ ≠ (.slice (some ad427) x5_2.length co12 : Value).ownBlock)) (by (with_reducible repeat (first | apply Kd.R_alloc | apply Kd.R_drewN | apply Kd.R_drew)); exact Kd.R_mono HO_10.out (fun _ hk => ⟨⟨hk.1, ⟨hk.2.1, ⟨hk.2.2.1, ⟨hk.2.2.2.2.1, hk.2.2.2.2.2⟩⟩⟩⟩, hk.2.2.2.1⟩)) hg (.inl rfl)); replace HO_16 := Aside0.mk (Kd.R_after (v := (.slice (some ⟨go94, 0, none⟩) x17_3.length co95)) (v1 := (.slice (some ⟨go94, 0, none⟩) x17_3.length co95)) (ok := (fun k_ => some k_ ≠ (.slice (some ad427) x5_2.length co12 : Value).ownBlock ∧ some k_ ≠ (v411 : Value).ownBlock ∧ some k_ ≠ (.slice (some ad423) x137_2.length co34 : Value).ownBlock ∧ some k_ ≠ (.slice (some ad427) x5_2.length co12 : Value).ownBlock)) (by (with_reducible repeat (first | apply Kd.R_alloc | apply Kd.R_drewN | apply Kd.R_drew)); exact Kd.R_mono HO_16.out (fun _ hk => ⟨⟨hk.1, ⟨hk.2.1, ⟨hk.2.2.2.1, hk.2.2.2.2⟩⟩⟩, hk.2.2.1⟩)) hg (.inl rfl)); replace HO_17 := Aside0.mk (hp_); replace HO_137 := Aside0.mk (Kd.R_after (v := (.slice (some ⟨go94, 0, none⟩) x17_3.length co95)) (v1 := (.slice (some ⟨go94, 0, none⟩) x17_3.length co95)) (ok := (fun k_ => some k_ ≠ (.slice (some ad427) x5_2.length co12 : Value).ownBlock ∧ some k_ ≠ (v403 : Value).ownBlock ∧ some k_ ≠ (v411 : Value).ownBlock ∧ some k_ ≠ (v403 : Value).ownBlock ∧ some k_ ≠ (.slice (some ad427) x5_2.length co12 : Value).ownBlock)) (by (with_reducible repeat (first | apply Kd.R_alloc | apply Kd.R_drewN | apply Kd.R_drew)); exact Kd.R_mono HO_137.out (fun _ hk => ⟨⟨hk.1, ⟨hk.2.1, ⟨hk.2.2.1, ⟨hk.2.2.2.1, hk.2.2.2.2.2⟩⟩⟩⟩, hk.2.2.2.2.1⟩)) hg (.inl rfl)); replace HO_149 := Aside0.mk (Kd.R_after (v := (.slice (some ⟨go94, 0, none⟩) x17_3.length co95)) (v1 := (.slice (some ⟨go94, 0, none⟩) x17_3.length co95)) (ok := (fun k_ => some k_ ≠ (v403 : Value).ownBlock ∧ some k_ ≠ (v411 : Value).ownBlock ∧ some k_ ≠ (v403 : Value).ownBlock ∧ some k_ ≠ (.slice (some ad423) x137_2.length co34 : Value).ownBlock)) (by (with_reducible repeat (first | apply Kd.R_alloc | apply Kd.R_drewN | apply Kd.R_drew)); exact Kd.R_mono HO_149.out (fun _ hk => ⟨⟨hk.1, ⟨hk.2.1, ⟨hk.2.2.1, hk.2.2.2.2⟩⟩⟩, hk.2.2.2.1⟩)) hg (.inl rfl)); replace HB := Aside0.mk ((by rw [hw]; exact below_set (HB.out) GB94.out : Below w.heap.size w w97)); clear hg hw hp_))
               repeat (go_quiet (first | ((with_reducible refine gate_store (t := 3) (p := 164) rfl ?_); (try (rw [drewN_self wr]; generalize hq_ : World.drewN wr _ = wr; replace HO_5 := Aside0.mk (Kd.R_at hq_ HO_5.out); replace HO_6 := Aside0.mk (Kd.R_at hq_ HO_6.out); replace HO_10 := Aside0.mk (Kd.R_at hq_ HO_10.out); replace HO_16 := Aside0.mk (Kd.R_at hq_ HO_16.out); replace HO_17 := Aside0.mk (Kd.R_at hq_ HO_17.out); replace HO_137 := Aside0.mk (Kd.R_at hq_ HO_137.out); replace HO_149 := Aside0.mk (Kd.R_at hq_ HO_149.out); replace HB := Aside0.mk (below_at hq_ HB.out); clear hq_; (try (have HP96 := Kd.R_putg HO_17.out ((ji91) : Int) (wrap64 ((rd x17_3 (ji91)) + (rd x5_2 x151_3))))))); refine store_event (t := 3) (p := 164) (v := ?vo_w97) (w1 := (wr.setCell ⟨go94, ((ji91) : Int).toNat, none⟩ (.int .i64 (wrap64 ((rd x17_3 (ji91)) + (rd x5_2 x151_3)))))) ?hg ?ho ?hn ?hr ?_; (case ho => rfl); (case hg => rfl); (case hn => rfl); (case hr => first | (go_simp; done) | (go_simp; rfl)); intro w97 hw; have hg : wr.grownBy w97 (some go94) := (by rw [hw]; exact HP96.2); have hp_ : Kd.R (Kd.int .i64) 3 w97 w.heap.size (fun k_ => some k_ ≠ (.slice (some ad427) x5_2.length co12 : Value).ownBlock ∧ some k_ ≠ (v403 : Value).ownBlock ∧ some k_ ≠ (v411 : Value).ownBlock ∧ some k_ ≠ (v403 : Value).ownBlock ∧ some k_ ≠ (.slice (some ad423) x137_2.length co34 : Value).ownBlock ∧ some k_ ≠ (.slice (some ad427) x5_2.length co12 : Value).ownBlock) (.slice (some ⟨go94, 0, none⟩) x17_3.length co95) y429 := (by rw [hw, Ny429.out]; exact HP96.1); clear HP96; replace HO_5 := Aside0.mk (Kd.R_after (v := (.slice (some ⟨go94, 0, none⟩) x17_3.length co95)) (v1 := (.slice (some ⟨go94, 0, none⟩) x17_3.length co95)) (ok := (fun k_ => some k_ ≠ (v403 : Value).ownBlock ∧ some k_ ≠ (v411 : Value).ownBlock ∧ some k_ ≠ (v403 : Value).ownBlock ∧ some k_ ≠ (.slice (some ad423) x137_2.length co34 : Value).ownBlock)) (by (with_reducible repeat (first | apply Kd.R_alloc | apply Kd.R_drewN | apply Kd.R_drew)); exact Kd.R_mono HO_5.out (fun _ hk => ⟨⟨hk.1, ⟨hk.2.1, ⟨hk.2.2.1, hk.2.2.2.2⟩⟩⟩, hk.2.2.2.1⟩)) hg (.inl rfl)); replace HO_6 := Aside0.mk (Kd.R_after (v := (.slice (some ⟨go94, 0, none⟩) x17_3.length co95)) (v1 := (.slice (some ⟨go94, 0, none⟩) x17_3.length co95)) (ok := (fun k_ => some k_ ≠ (.slice (some ad427) x5_2.length co12 : Value).ownBlock ∧ some k_ ≠ (v411 : Value).ownBlock ∧ some k_ ≠ (.slice (some ad423) x137_2.length co34 : Value).ownBlock ∧ some k_ ≠ (.slice (some ad427) x5_2.length co12 : Value).ownBlock)) (by (with_reducible repeat (first | apply Kd.R_alloc | apply Kd.R_drewN | apply Kd.R_drew)); exact Kd.R_mono HO_6.out (fun _ hk => ⟨⟨hk.1, ⟨hk.2.1, ⟨hk.2.2.2.1, hk.2.2.2.2⟩⟩⟩, hk.2.2.1⟩)) hg (.inl rfl)); replace HO_10 := Aside0.mk (Kd.R_after (v := (.slice (some ⟨go94, 0, none⟩) x17_3.length co95)) (v1 := (.slice (some ⟨go94, 0, none⟩) x17_3.length co95)) (ok := (fun k_ => some k_ ≠ (.slice (some ad427) x5_2.length co12 : Value).ownBlock ∧ some k_ ≠ (v403 : Value).ownBlock ∧ some k_ ≠ (v403 : Value).ownBlock ∧ some k_ ≠ (.slice (some ad423) x137_2.length co34 : Value).ownBlock ∧ some k_ ≠ (.slice (some ad427) x5_2.length co12 : Value).ownBlock)) (by (with_reducible repeat (first | apply Kd.R_alloc | apply Kd.R_drewN | apply Kd.R_drew)); exact Kd.R_mono HO_10.out (fun _ hk => ⟨⟨hk.1, ⟨hk.2.1, ⟨hk.2.2.1, ⟨hk.2.2.2.2.1, hk.2.2.2.2.2⟩⟩⟩⟩, hk.2.2.2.1⟩)) hg (.inl rfl)); replace HO_16 := Aside0.mk (Kd.R_after (v := (.slice (some ⟨go94, 0, none⟩) x17_3.length co95)) (v1 := (.slice (some ⟨go94, 0, none⟩) x17_3.length co95)) (ok := (fun k_ => some k_ ≠ (.slice (some ad427) x5_2.length co12 : Value).ownBlock ∧ some k_ ≠ (v411 : Value).ownBlock ∧ some k_ ≠ (.slice (some ad423) x137_2.length co34 : Value).ownBlock ∧ some k_ ≠ (.slice (some ad427) x5_2.length co12 : Value).ownBlock)) (by (with_reducible repeat (first | apply Kd.R_alloc | apply Kd.R_drewN | apply Kd.R_drew)); exact Kd.R_mono HO_16.out (fun _ hk => ⟨⟨hk.1, ⟨hk.2.1, ⟨hk.2.2.2.1, hk.2.2.2.2⟩⟩⟩, hk.2.2.1⟩)) hg (.inl rfl)); replace HO_17 := Aside0.mk (hp_); replace HO_137 := Aside0.mk (Kd.R_after (v := (.slice (some ⟨go94, 0, none⟩) x17_3.length co95)) (v1 := (.slice (some ⟨go94, 0, none⟩) x17_3.length co95)) (ok := (fun k_ => some k_ ≠ (.slice (some ad427) x5_2.length co12 : Value).ownBlock ∧ some k_ ≠ (v403 : Value).ownBlock ∧ some k_ ≠ (v411 : Value).ownBlock ∧ some k_ ≠ (v403 : Value).ownBlock ∧ some k_ ≠ (.slice (some ad427) x5_2.length co12 : Value).ownBlock)) (by (with_reducible repeat (first | apply Kd.R_alloc | apply Kd.R_drewN | apply Kd.R_drew)); exact Kd.R_mono HO_137.out (fun _ hk => ⟨⟨hk.1, ⟨hk.2.1, ⟨hk.2.2.1, ⟨hk.2.2.2.1, hk.2.2.2.2.2⟩⟩⟩⟩, hk.2.2.2.2.1⟩)) hg (.inl rfl)); replace HO_149 := Aside0.mk (Kd.R_after (v := (.slice (some ⟨go94, 0, none⟩) x17_3.length co95)) (v1 := (.slice (some ⟨go94, 0, none⟩) x17_3.length co95)) (ok := (fun k_ => some k_ ≠ (v403 : Value).ownBlock ∧ some k_ ≠ (v411 : Value).ownBlock ∧ some k_ ≠ (v403 : Value).ownBlock ∧ some k_ ≠ (.slice (some ad423) x137_2.length co34 : Value).ownBlock)) (by (with_reducible repeat (first | apply Kd.R_alloc | apply Kd.R_drewN | apply Kd.R_drew)); exact Kd.R_mono HO_149.out (fun _ hk => ⟨⟨hk.1, ⟨hk.2.1, ⟨hk.2.2.1, hk.2.2.2.2⟩⟩⟩, hk.2.2.2.1⟩)) hg (.inl rfl)); replace HB := Aside0.mk ((by rw [hw]; exact below_set (HB.out) GB94.out : Below w.heap.size w w97)); clear hg hw hp_)); try go_wp2_with (first | ((with_reducible refine gate_store (t := 3) (p := 164) rfl ?_); (try (rw [drewN_self wr]; generalize hq_ : World.drewN wr _ = wr; replace HO_5 := Aside0.mk (Kd.R_at hq_ HO_5.out); replace HO_6 := Aside0.mk (Kd.R_at hq_ HO_6.out); replace HO_10 := Aside0.mk (Kd.R_at hq_ HO_10.out); replace HO_16 := Aside0.mk (Kd.R_at hq_ HO_16.out); replace HO_17 := Aside0.mk (Kd.R_at hq_ HO_17.out); replace HO_137 := Aside0.mk (Kd.R_at hq_ HO_137.out); replace HO_149 := Aside0.mk (Kd.R_at hq_ HO_149.out); replace HB := Aside0.mk (below_at hq_ HB.out); clear hq_; (try (have HP96 := Kd.R_putg HO_17.out ((ji91) : Int) (wrap64 ((rd x17_3 (ji91)) + (rd x5_2 x151_3))))))); refine store_event (t := 3) (p := 164) (v := ?vo_w97) (w1 := (wr.setCell ⟨go94, ((ji91) : Int).toNat, none⟩ (.int .i64 (wrap64 ((rd x17_3 (ji91)) + (rd x5_2 x151_3)))))) ?hg ?ho ?hn ?hr ?_; (case ho => rfl); (case hg => rfl); (case hn => rfl); (case hr => first | (go_simp; done) | (go_simp; rfl)); intro w97 hw; have hg : wr.grownBy w97 (some go94) := (by rw [hw]; exact HP96.2); have hp_ : Kd.R (Kd.int .i64) 3 w97 w.heap.size (fun k_ => some k_ ≠ (.slice (some ad427) x5_2.length co12 : Value).ownBlock ∧ some k_ ≠ (v403 : Value).ownBlock ∧ some k_ ≠ (v411 : Value).ownBlock ∧ some k_ ≠ (v403 : Value).ownBlock ∧ some k_ ≠ (.slice (some ad423) x137_2.length co34 : Value).ownBlock ∧ some k_ ≠ (.slice (some ad427) x5_2.length co12 : Value).ownBlock) (.slice (some ⟨go94, 0, none⟩) x17_3.length co95) y429 := (by rw [hw, Ny429.out]; exact HP96.1); clear HP96; replace HO_5 := Aside0.mk (Kd.R_after (v := (.slice (some ⟨go94, 0, none⟩) x17_3.length co95)) (v1 := (.slice (some ⟨go94, 0, none⟩) x17_3.length co95)) (ok := (fun k_ => some k_ ≠ (v403 : Value).ownBlock ∧ some k_ ≠ (v411 : Value).ownBlock ∧ some k_ ≠ (v403 : Value).ownBlock ∧ some k_ ≠ (.slice (some ad423) x137_2.length co34 : Value).ownBlock)) (by (with_reducible repeat (first | apply Kd.R_alloc | apply Kd.R_drewN | apply Kd.R_drew)); exact Kd.R_mono HO_5.out (fun _ hk => ⟨⟨hk.1, ⟨hk.2.1, ⟨hk.2.2.1, hk.2.2.2.2⟩⟩⟩, hk.2.2.2.1⟩)) hg (.inl rfl)); replace HO_6 := Aside0.mk (Kd.R_after (v := (.slice (some ⟨go94, 0, none⟩) x17_3.length co95)) (v1 := (.slice (some ⟨go94, 0, none⟩) x17_3.length co95)) (ok := (fun k_ => some k_ ≠ (.slice (some ad427) x5_2.length co12 : Value).ownBlock ∧ some k_ ≠ (v411 : Value).ownBlock ∧ some k_ ≠ (.slice (some ad423) x137_2.length co34 : Value).ownBlock ∧ some k_ ≠ (.slice (some ad427) x5_2.length co12 : Value).ownBlock)) (by (with_reducible repeat (first | apply Kd.R_alloc | apply Kd.R_drewN | apply Kd.R_drew)); exact Kd.R_mono HO_6.out (fun _ hk => ⟨⟨hk.1, ⟨hk.2.1, ⟨hk.2.2.2.1, hk.2.2.2.2⟩⟩⟩, hk.2.2.1⟩)) hg (.inl rfl)); replace HO_10 := Aside0.mk (Kd.R_after (v := (.slice (some ⟨go94, 0, none⟩) x17_3.length co95)) (v1 := (.slice (some ⟨go94, 0, none⟩) x17_3.length co95)) (ok := (fun k_ => some k_ ≠ (.slice (some ad427) x5_2.length co12 : Value).ownBlock ∧ some k_ ≠ (v403 : Value).ownBlock ∧ some k_ ≠ (v403 : Value).ownBlock ∧ some k_ ≠ (.slice (some ad423) x137_2.length co34 : Value).ownBlock ∧ some k_ ≠ (.slice (some ad427) x5_2.length co12 : Value).ownBlock)) (by (with_reducible repeat (first | apply Kd.R_alloc | apply Kd.R_drewN | apply Kd.R_drew)); exact Kd.R_mono HO_10.out (fun _ hk => ⟨⟨hk.1, ⟨hk.2.1, ⟨hk.2.2.1, ⟨hk.2.2.2.2.1, hk.2.2.2.2.2⟩⟩⟩⟩, hk.2.2.2.1⟩)) hg (.inl rfl)); replace HO_16 := Aside0.mk (Kd.R_after (v := (.slice (some ⟨go94, 0, none⟩) x17_3.length co95)) (v1 := (.slice (some ⟨go94, 0, none⟩) x17_3.length co95)) (ok := (fun k_ => some k_ ≠ (.slice (some ad427) x5_2.length co12 : Value).ownBlock ∧ some k_ ≠ (v411 : Value).ownBlock ∧ some k_ ≠ (.slice (some ad423) x137_2.length co34 : Value).ownBlock ∧ some k_ ≠ (.slice (some ad427) x5_2.length co12 : Value).ownBlock)) (by (with_reducible repeat (first | apply Kd.R_alloc | apply Kd.R_drewN | apply Kd.R_drew)); exact Kd.R_mono HO_16.out (fun _ hk => ⟨⟨hk.1, ⟨hk.2.1, ⟨hk.2.2.2.1, hk.2.2.2.2⟩⟩⟩, hk.2.2.1⟩)) hg (.inl rfl)); replace HO_17 := Aside0.mk (hp_); replace HO_137 := Aside0.mk (Kd.R_after (v := (.slice (some ⟨go94, 0, none⟩) x17_3.length co95)) (v1 := (.slice (some ⟨go94, 0, none⟩) x17_3.length co95)) (ok := (fun k_ => some k_ ≠ (.slice (some ad427) x5_2.length co12 : Value).ownBlock ∧ some k_ ≠ (v403 : Value).ownBlock ∧ some k_ ≠ (v411 : Value).ownBlock ∧ some k_ ≠ (v403 : Value).ownBlock ∧ some k_ ≠ (.slice (some ad427) x5_2.length co12 : Value).ownBlock)) (by (with_reducible repeat (first | apply Kd.R_alloc | apply Kd.R_drewN | apply Kd.R_drew)); exact Kd.R_mono HO_137.out (fun _ hk => ⟨⟨hk.1, ⟨hk.2.1, ⟨hk.2.2.1, ⟨hk.2.2.2.1, hk.2.2.2.2.2⟩⟩⟩⟩, hk.2.2.2.2.1⟩)) hg (.inl rfl)); replace HO_149 := Aside0.mk (Kd.R_after (v := (.slice (some ⟨go94, 0, none⟩) x17_3.length co95)) (v1 := (.slice (some ⟨go94, 0, none⟩) x17_3.length co95)) (ok := (fun k_ => some k_ ≠ (v403 : Value).ownBlock ∧ some k_ ≠ (v411 : Value).ownBlock ∧ some k_ ≠ (v403 : Value).ownBlock ∧ some k_ ≠ (.slice (some ad423) x137_2.length co34 : Value).ownBlock)) (by (with_reducible repeat (first | apply Kd.R_alloc | apply Kd.R_drewN | apply Kd.R_drew)); exact Kd.R_mono HO_149.out (fun _ hk => ⟨⟨hk.1, ⟨hk.2.1, ⟨hk.2.2.1, hk.2.2.2.2⟩⟩⟩, hk.2.2.2.1⟩)) hg (.inl rfl)); replace HB := Aside0.mk ((by rw [hw]; exact below_set (HB.out) GB94.out : Below w.heap.size w w97)); clear hg hw hp_)))
               go_roundg k3
               case measure => have := HJ9.out; have := HK2.out; have := HK3.out; omega
               case rel => exact ⟨(y429), (wrap64 (x151_3 + 1)), (by first | rfl | (simp; done) | (simp [*]; done)), H', ⟨by have := HJ9.out; have := HK2.out; have := HK3.out; omega⟩, ⟨by (try simp only [hl5_2]); (try simp only [hl137_2]); (with_reducible repeat (first | apply Kd.R_alloc | apply Kd.R_drewN | apply Kd.R_drew)); exact Kd.R_mono HO_5.out (fun _ hk => ⟨hk.1.1, ⟨hk.1.2.1, ⟨hk.1.2.2.1, ⟨hk.2, hk.1.2.2.2⟩⟩⟩⟩)⟩, ⟨by (try simp only [hl5_2]); (try simp only [hl137_2]); (with_reducible repeat (first | apply Kd.R_alloc | apply Kd.R_drewN | apply Kd.R_drew)); exact Kd.R_mono HO_6.out (fun _ hk => ⟨hk.1.1, ⟨hk.1.2.1, ⟨hk.2, ⟨hk.1.2.2.1, hk.1.2.2.2⟩⟩⟩⟩)⟩, ⟨by (try simp only [hl5_2]); (try simp only [hl137_2]); (with_reducible repeat (first | apply Kd.R_alloc | apply Kd.R_drewN | apply Kd.R_drew)); exact Kd.R_mono HO_10.out (fun _ hk => ⟨hk.1.1, ⟨hk.1.2.1, ⟨hk.1.2.2.1, ⟨hk.2, ⟨hk.1.2.2.2.1, hk.1.2.2.2.2⟩⟩⟩⟩⟩)⟩, ⟨by (try simp only [hl5_2]); (try simp only [hl137_2]); (with_reducible repeat (first | apply Kd.R_alloc | apply Kd.R_drewN | apply Kd.R_drew)); exact Kd.R_mono HO_16.out (fun _ hk => ⟨hk.1.1, ⟨hk.1.2.1, ⟨hk.2, ⟨hk.1.2.2.1, hk.1.2.2.2⟩⟩⟩⟩)⟩, ⟨by (try simp only [hl5_2]); (try simp only [hl137_2]); (with_reducible repeat (first | apply Kd.R_alloc | apply Kd.R_drewN | apply Kd.R_drew)); exact HO_17.out⟩, ⟨by (try simp only [hl5_2]); (try simp only [hl137_2]); (with_reducible repeat (first | apply Kd.R_alloc | apply Kd.R_drewN | apply Kd.R_drew)); exact Kd.R_mono HO_137.out (fun _ hk => ⟨hk.1.1, ⟨hk.1.2.1, ⟨hk.1.2.2.1, ⟨hk.1.2.2.2.1, ⟨hk.2, hk.1.2.2.2.2⟩⟩⟩⟩⟩)⟩, ⟨by (try simp only [hl5_2]); (try simp only [hl137_2]); (with_reducible repeat (first | apply Kd.R_alloc | apply Kd.R_drewN | apply Kd.R_drew)); exact Kd.R_mono HO_149.out (fun _ hk => ⟨hk.1.1, ⟨hk.1.2.1, ⟨hk.1.2.2.1, ⟨hk.2, hk.1.2.2.2⟩⟩⟩⟩)⟩, ⟨xB HB.out⟩⟩
           rw [if_neg c87] at H
           have c87b0 : decide (x151_3 < (x5_2.length : Int)) = false := decide_eq_false c87
           (try (have c87b5 := c87b0; rw [hl5_2] at c87b5))
           (try (have c87b6 := c87b0; rw [hl137_2] at c87b6))
           clear c87
           have H' := Aside0.mk H
           clear H
           obtain ⟨Ao98, co98, eo98⟩ := Kd.R_slice HO_16.out
           subst eo98
           go_wp2
           repeat (go_quiet (fail); try go_wp2)
           go_loopg [20, 21, 168] k3 (fun kq v20 v21 v168 w' => ∃ (x20_4 : Int) (x21_4 : Int) (x168_4 : Int), v20 = .int .i64 x20_4 ∧ v21 = .int .i64 x21_4 ∧ v168 = .int .i64 x168_4 ∧ Aside0 (laws_FnTonesFound.l2 kq l1 x5_2 x6_2 x10_2 (rd x137_2 x139_2) x6_2 x17_3 x20_4 x21_4 x137_2 (y420.length : Int) x139_2 x6_2 (x6_2.length : Int) x168_4 = some r) ∧ Aside0 (kq ≤ k3) ∧ Aside0 (Kd.R (Kd.int .i64) 3 w' w.heap.size (fun k_ => some k_ ≠ ((.slice Ao98 x6_2.length co98) : Value).ownBlock ∧ some k_ ≠ (v411 : Value).ownBlock ∧ some k_ ≠ ((.slice Ao98 x6_2.length co98) : Value).ownBlock ∧ some k_ ≠ (v440 : Value).ownBlock ∧ some k_ ≠ ((.slice (some ad423) x137_2.length co34) : Value).ownBlock ∧ some k_ ≠ ((.slice Ao98 x6_2.length co98) : Value).ownBlock) (.slice Ao12 x5_2.length co12) x5_2) ∧ Aside0 (Kd.R (Kd.int .i64) 3 w' w.heap.size (fun k_ => some k_ ≠ ((.slice Ao12 x5_2.length co12) : Value).ownBlock ∧ some k_ ≠ (v411 : Value).ownBlock ∧ some k_ ≠ (v440 : Value).ownBlock ∧ some k_ ≠ ((.slice (some ad423) x137_2.length co34) : Value).ownBlock) (.slice Ao98 x6_2.length co98) x6_2) ∧ Aside0 (Kd.R (Kd.int .i64) 3 w' w.heap.size (fun k_ => some k_ ≠ ((.slice Ao12 x5_2.length co12) : Value).ownBlock ∧ some k_ ≠ ((.slice Ao98 x6_2.length co98) : Value).ownBlock ∧ some k_ ≠ ((.slice Ao98 x6_2.length co98) : Value).ownBlock ∧ some k_ ≠ (v440 : Value).ownBlock ∧ some k_ ≠ ((.slice (some ad423) x137_2.length co34) : Value).ownBlock ∧ some k_ ≠ ((.slice Ao98 x6_2.length co98) : Value).ownBlock) v411 x10_2) ∧ Aside0 (Kd.R (Kd.int .i64) 3 w' w.heap.size (fun k_ => some k_ ≠ ((.slice Ao12 x5_2.length co12) : Value).ownBlock ∧ some k_ ≠ (v411 : Value).ownBlock ∧ some k_ ≠ (v440 : Value).ownBlock ∧ some k_ ≠ ((.slice (some ad423) x137_2.length co34) : Value).ownBlock) (.slice Ao98 x6_2.length co98) x6_2) ∧ Aside0 (Kd.R (Kd.int .i64) 3 w' w.heap.size (fun k_ => some k_ ≠ ((.slice Ao12 x5_2.length co12) : Value).ownBlock ∧ some k_ ≠ ((.slice Ao98 x6_2.length co98) : Value).ownBlock ∧ some k_ ≠ (v411 : Value).ownBlock ∧ some k_ ≠ ((.slice Ao98 x6_2.length co98) : Value).ownBlock ∧ some k_ ≠ ((.slice (some ad423) x137_2.length co34) : Value).ownBlock ∧ some k_ ≠ ((.slice Ao98 x6_2.length co98) : Value).ownBlock) v440 x17_3) ∧ Aside0 (Kd.R (Kd.int .i64) 3 w' w.heap.size (fun k_ => some k_ ≠ ((.slice Ao12 x5_2.length co12) : Value).ownBlock ∧ some k_ ≠ ((.slice Ao98 x6_2.length co98) : Value).ownBlock ∧ some k_ ≠ (v411 : Value).ownBlock ∧ some k_ ≠ ((.slice Ao98 x6_2.length co98) : Value).ownBlock ∧ some k_ ≠ (v440 : Value).ownBlock ∧ some k_ ≠ ((.slice Ao98 x6_2.length co98) : Value).ownBlock) (.slice (some ad423) x137_2.length co34) x137_2) ∧ Aside0 (Kd.R (Kd.int .i64) 3 w' w.heap.size (fun k_ => some k_ ≠ ((.slice Ao12 x5_2.length co12) : Value).ownBlock ∧ some k_ ≠ (v411 : Value).ownBlock ∧ some k_ ≠ (v440 : Value).ownBlock ∧ some k_ ≠ ((.slice (some ad423) x137_2.length co34) : Value).ownBlock) (.slice Ao98 x6_2.length co98) x6_2) ∧ Aside0 (Below w.heap.size w w'))
           case atStart => exact ⟨(0), (0), (0), (by first | rfl | (simp; done) | (simp [*]; done)), (by first | rfl | (simp; done) | (simp [*]; done)), (by first | rfl | (simp; done) | (simp [*]; done)), H', ⟨Nat.le_refl _⟩, ⟨by (try simp only [hl5_2]); (try simp only [hl137_2]); (with_reducible repeat (first | apply Kd.R_alloc | apply Kd.R_drewN | apply Kd.R_drew)); exact Kd.R_mono HO_5.out (fun _ hk => ⟨hk.1, ⟨hk.2.1, ⟨hk.2.2.1, ⟨hk.2.2.2.1, ⟨hk.2.2.2.2, hk.2.2.1⟩⟩⟩⟩⟩)⟩, ⟨by (try simp only [hl5_2]); (try simp only [hl137_2]); (with_reducible repeat (first | apply Kd.R_alloc | apply Kd.R_drewN | apply Kd.R_drew)); exact Kd.R_mono HO_6.out (fun _ hk => ⟨hk.1, ⟨hk.2.1, ⟨hk.2.2.1, hk.2.2.2.1⟩⟩⟩)⟩, ⟨by (try simp only [hl5_2]); (try simp only [hl137_2]); (with_reducible repeat (first | apply Kd.R_alloc | apply Kd.R_drewN | apply Kd.R_drew)); exact Kd.R_mono HO_10.out (fun _ hk => ⟨hk.1, ⟨hk.2.1, ⟨hk.2.2.1, ⟨hk.2.2.2.1, ⟨hk.2.2.2.2.1, hk.2.2.1⟩⟩⟩⟩⟩)⟩, ⟨by (try simp only [hl5_2]); (try simp only [hl137_2]); (with_reducible repeat (first | apply Kd.R_alloc | apply Kd.R_drewN | apply Kd.R_drew)); exact Kd.R_mono HO_16.out (fun _ hk => ⟨hk.1, ⟨hk.2.1, ⟨hk.2.2.1, hk.2.2.2.1⟩⟩⟩)⟩, ⟨by (try simp only [hl5_2]); (try simp only [hl137_2]); (with_reducible repeat (first | apply Kd.R_alloc | apply Kd.R_drewN | apply Kd.R_drew)); exact Kd.R_mono HO_17.out (fun _ hk => ⟨hk.1, ⟨hk.2.1, ⟨hk.2.2.1, ⟨hk.2.2.2.1, ⟨hk.2.2.2.2.1, hk.2.2.2.1⟩⟩⟩⟩⟩)⟩, ⟨by (try simp only [hl5_2]); (try simp only [hl137_2]); (with_reducible repeat (first | apply Kd.R_alloc | apply Kd.R_drewN | apply Kd.R_drew)); exact Kd.R_mono HO_137.out (fun _ hk => ⟨hk.1, ⟨hk.2.1, ⟨hk.2.2.1, ⟨hk.2.2.2.1, ⟨hk.2.2.2.2.1, hk.2.2.2.1⟩⟩⟩⟩⟩)⟩, ⟨by (try simp only [hl5_2]); (try simp only [hl137_2]); (with_reducible repeat (first | apply Kd.R_alloc | apply Kd.R_drewN | apply Kd.R_drew)); exact Kd.R_mono HO_16.out (fun _ hk => ⟨hk.1, ⟨hk.2.1, ⟨hk.2.2.1, hk.2.2.2.1⟩⟩⟩)⟩, ⟨xB HB.out⟩⟩
           case round =>
            clear H'
            try clear c87b0
            obtain ⟨x20_4, x21_4, x168_4, rfl, rfl, rfl, HA, HK4, HO_5, HO_6, HO_10, HO_16, HO_17, HO_137, HO_166, HB⟩ := hrel
            cases gk with
            | zero => exact absurd HA.out (by simp [laws_FnTonesFound.l2])
            | succ k4 =>
             have H := HA.out
             clear HA
             simp only [laws_FnTonesFound.l2] at H
             by_cases c99 : x168_4 < (x6_2.length : Int)
             ·as_aux_lemma =>
                rw [if_pos c99] at H
                have c99b0 : decide (x168_4 < (x6_2.length : Int)) = true := decide_eq_true c99
                (try (have c99b5 := c99b0; rw [hl5_2] at c99b5))
                (try (have c99b6 := c99b0; rw [hl137_2] at c99b6))
                clear c99
                by_cases c100 : 0 ≤ x168_4
                rotate_left
                ·rw [if_neg c100] at H
                 exact absurd H (by simp)
                rw [if_pos c100] at H
                have c100b0 : decide (0 ≤ x168_4) = true := decide_eq_true c100
                clear c100
                by_cases c101 : x168_4 < (x6_2.length : Int)
                rotate_left
                ·rw [if_neg c101] at H
                 exact absurd H (by simp)
                rw [if_pos c101] at H
                have c101b0 : decide (x168_4 < (x6_2.length : Int)) = true := decide_eq_true c101
                (try (have c101b5 := c101b0; rw [hl5_2] at c101b5))
                (try (have c101b6 := c101b0; rw [hl137_2] at c101b6))
                clear c101
                by_cases c102 : x168_4 < (x17_3.length : Int)
                rotate_left
                ·rw [if_neg c102] at H
                 exact absurd H (by simp)
                rw [if_pos c102] at H
                have c102b0 : decide (x168_4 < (x17_3.length : Int)) = true := decide_eq_true c102
                (try (have c102b5 := c102b0; rw [hl5_2] at c102b5))
                (try (have c102b6 := c102b0; rw [hl137_2] at c102b6))
                clear c102
                by_cases c103 : (rd x6_2 x168_4) < 0
                ·rw [if_pos c103] at H
                 have c103b0 : decide ((rd x6_2 x168_4) < 0) = true := decide_eq_true c103
                 clear c103
                 exact absurd ((Option.some.inj H).trans HRT.out) (by decide)
                rw [if_neg c103] at H
                have c103b0 : decide ((rd x6_2 x168_4) < 0) = false := decide_eq_false c103
                clear c103
                by_cases c104 : (rd x137_2 x139_2) = 0
                ·rw [if_pos c104] at H
                 exact absurd H (by simp)
                as_aux_lemma =>
                 rw [if_neg c104] at H
                 have c104b0 : ((rd x137_2 x139_2) == 0) = false := beq_eq_false_iff_ne.mpr c104
                 have c104b1 : ((rd x137_2 x139_2) != 0) = true := bne_iff_ne.mpr c104
                 obtain ⟨ji105, hji105⟩ : ∃ j_ : Int, (Int.tmod (wrap64 ((rd x137_2 x139_2) - x168_4)) (rd x137_2 x139_2)) = j_ := ⟨_, rfl⟩
                 replace H : (if 0 ≤ (ji105) then (if (ji105) < (x6_2.length : Int) then (if (rd x6_2 x168_4) = (rd x6_2 (ji105)) then (laws_FnTonesFound.l2 k4 l1 x5_2 x6_2 x10_2 (rd x137_2 x139_2) x6_2 x17_3 (wrap64 (x20_4 + (rd x6_2 x168_4))) (wrap64 (x21_4 + (wrap64 ((rd x17_3 x168_4) * (rd x17_3 x168_4))))) x137_2 (y420.length : Int) x139_2 x6_2 (x6_2.length : Int) (wrap64 (x168_4 + 1))) else (some false)) else (none)) else (none)) = some r := by first | (rw [hji105] at H; exact H) | (simp only [hji105] at H ⊢; exact H)
                 by_cases c106 : 0 ≤ (ji105)
                 rotate_left
                 ·rw [if_neg c106] at H
                  exact absurd H (by simp)
                 rw [if_pos c106] at H
                 have c106b0 : decide (0 ≤ (ji105)) = true := decide_eq_true c106
                 clear c106
                 by_cases c107 : (ji105) < (x6_2.length : Int)
                 rotate_left
                 ·rw [if_neg c107] at H
                  exact absurd H (by simp)
                 rw [if_pos c107] at H
                 have c107b0 : decide ((ji105) < (x6_2.length : Int)) = true := decide_eq_true c107
                 (try (have c107b5 := c107b0; rw [hl5_2] at c107b5))
                 (try (have c107b6 := c107b0; rw [hl137_2] at c107b6))
                 clear c107
                 by_cases c108 : (rd x6_2 x168_4) = (rd x6_2 (ji105))
                 rotate_left
                 ·rw [if_neg c108] at H
                  have c108b0 : ((rd x6_2 x168_4) == (rd x6_2 (ji105))) = false := beq_eq_false_iff_ne.mpr c108
                  have c108b1 : ((rd x6_2 x168_4) != (rd x6_2 (ji105))) = true := bne_iff_ne.mpr c108
                  exact absurd ((Option.some.inj H).trans HRT.out) (by decide)
                 rw [if_pos c108] at H
                 have c108b0 : ((rd x6_2 x168_4) == (rd x6_2 (ji105))) = true := beq_iff_eq.mpr c108
                 have c108b1 : ((rd x6_2 x168_4) != (rd x6_2 (ji105))) = false := bne_eq_false_iff_eq.mpr c108
                 clear c108
                 have H' := Aside0.mk H
                 clear H
                 have p430 : 0 ≤ (x168_4 : Int) := of_decide_eq_true (by first | (with_reducible assumption) | assumption)
                 have q430 : x168_4 < (x6_2.length : Int) := of_decide_eq_true (by first | (with_reducible assumption) | assumption)
                 obtain ⟨ad430, e430, hx430_0⟩ := Kd.at_int (Kd.R_reads' HO_166.out).2.2 x168_4 p430 q430
                 cases e430
                 replace p430 := eq_true p430
                 replace q430 := eq_true q430
                 obtain ⟨Ao109, co109, eo109⟩ := Kd.R_slice HO_17.out
                 subst eo109
                 have p431 : 0 ≤ (x168_4 : Int) := of_decide_eq_true (by first | (with_reducible assumption) | assumption)
                 have q431 : x168_4 < (x17_3.length : Int) := of_decide_eq_true (by first | (with_reducible assumption) | assumption)
                 obtain ⟨ad431, e431, hx431_0⟩ := Kd.at_int (Kd.R_reads' HO_17.out).2.2 x168_4 p431 q431
                 cases e431
                 replace p431 := eq_true p431
                 replace q431 := eq_true q431
                 have p432 : 0 ≤ (x168_4 : Int) := of_decide_eq_true (by first | (with_reducible assumption) | assumption)
                 have q432 : x168_4 < (x17_3.length : Int) := of_decide_eq_true (by first | (with_reducible assumption) | assumption)
                 obtain ⟨ad432, e432, hx432_0⟩ := Kd.at_int (Kd.R_reads' HO_17.out).2.2 x168_4 p432 q432
                 obtain rfl : ad431 = ad432 := (by injection e432)
                 replace p432 := eq_true p432
                 replace q432 := eq_true q432
                 have p433 : 0 ≤ ((ji105) : Int) := of_decide_eq_true (by first | (with_reducible assumption) | assumption | (rw [← hji105]; first | (with_reducible assumption) | assumption))
                 have q433 : (ji105) < (x6_2.length : Int) := of_decide_eq_true (by first | (with_reducible assumption) | assumption | (rw [← hji105]; first | (with_reducible assumption) | assumption))
                 obtain ⟨ad433, e433, hx433_0⟩ := Kd.at_int (Kd.R_reads' HO_16.out).2.2 (ji105) p433 q433
                 obtain rfl : ad430 = ad433 := (by injection e433)
                 replace p433 := eq_true p433
                 replace q433 := eq_true q433
                 go_wp2
                 repeat (go_quiet (fail); try go_wp2)
                 go_roundg k4
                 case measure => have := HJ9.out; have := HK2.out; have := HK3.out; have := HK4.out; omega
                 case rel => exact ⟨(wrap64 (x20_4 + (rd x6_2 x168_4))), (wrap64 (x21_4 + (wrap64 ((rd x17_3 x168_4) * (rd x17_3 x168_4))))), (wrap64 (x168_4 + 1)), (by first | rfl | (simp; done) | (simp [*]; done)), (by first | rfl | (simp; done) | (simp [*]; done)), (by first | rfl | (simp; done) | (simp [*]; done)), H', ⟨by have := HJ9.out; have := HK2.out; have := HK3.out; have := HK4.out; omega⟩, ⟨by (try simp only [hl5_2]); (try simp only [hl137_2]); (with_reducible repeat (first | apply Kd.R_alloc | apply Kd.R_drewN | apply Kd.R_drew)); exact HO_5.out⟩, ⟨by (try simp only [hl5_2]); (try simp only [hl137_2]); (with_reducible repeat (first | apply Kd.R_alloc | apply Kd.R_drewN | apply Kd.R_drew)); exact HO_6.out⟩, ⟨by (try simp only [hl5_2]); (try simp only [hl137_2]); (with_reducible repeat (first | apply Kd.R_alloc | apply Kd.R_drewN | apply Kd.R_drew)); exact HO_10.out⟩, ⟨by (try simp only [hl5_2]); (try simp only [hl137_2]); (with_reducible repeat (first | apply Kd.R_alloc | apply Kd.R_drewN | apply Kd.R_drew)); exact HO_16.out⟩, ⟨by (try simp only [hl5_2]); (try simp only [hl137_2]); (with_reducible repeat (first | apply Kd.R_alloc | apply Kd.R_drewN | apply Kd.R_drew)); exact HO_17.out⟩, ⟨by (try simp only [hl5_2]); (try simp only [hl137_2]); (with_reducible repeat (first | apply Kd.R_alloc | apply Kd.R_drewN | apply Kd.R_drew)); exact HO_137.out⟩, ⟨by (try simp only [hl5_2]); (try simp only [hl137_2]); (with_reducible repeat (first | apply Kd.R_alloc | apply Kd.R_drewN | apply Kd.R_drew)); exact HO_166.out⟩, ⟨xB HB.out⟩⟩
             rw [if_neg c99] at H
             have c99b0 : decide (x168_4 < (x6_2.length : Int)) = false := decide_eq_false c99
             (try (have c99b5 := c99b0; rw [hl5_2] at c99b5))
             (try (have c99b6 := c99b0; rw [hl137_2] at c99b6))
             clear c99
             have HC110 := Aside0.mk H
             clear H
             go_upto_region 32 with (fail)
             repeat (go_quiet (fail); go_upto_region 32 with (fail))
             go_cut [212] (fun v212 wc => ∃ (kq : Nat) (x212_109 : Bool), v212 = .bool x212_109 ∧ Aside0 (laws_FnTonesFound.j4 kq l1 x5_2 x6_2 x10_2 (rd x137_2 x139_2) x6_2 x137_2 (y420.length : Int) x139_2 x212_109 = some r) ∧ Aside0 (kq ≤ k4) ∧ Aside0 (Kd.R (Kd.int .i64) 3 wc w.heap.size (fun k_ => some k_ ≠ ((.slice Ao98 x6_2.length co98) : Value).ownBlock ∧ some k_ ≠ (v411 : Value).ownBlock ∧ some k_ ≠ ((.slice Ao98 x6_2.length co98) : Value).ownBlock ∧ some k_ ≠ ((.slice (some ad423) x137_2.length co34) : Value).ownBlock) (.slice Ao12 x5_2.length co12) x5_2) ∧ Aside0 (Kd.R (Kd.int .i64) 3 wc w.heap.size (fun k_ => some k_ ≠ ((.slice Ao12 x5_2.length co12) : Value).ownBlock ∧ some k_ ≠ (v411 : Value).ownBlock ∧ some k_ ≠ ((.slice (some ad423) x137_2.length co34) : Value).ownBlock) (.slice Ao98 x6_2.length co98) x6_2) ∧ Aside0 (Kd.R (Kd.int .i64) 3 wc w.heap.size (fun k_ => some k_ ≠ ((.slice Ao12 x5_2.length co12) : Value).ownBlock ∧ some k_ ≠ ((.slice Ao98 x6_2.length co98) : Value).ownBlock ∧ some k_ ≠ ((.slice Ao98 x6_2.length co98) : Value).ownBlock ∧ some k_ ≠ ((.slice (some ad423) x137_2.length co34) : Value).ownBlock) v411 x10_2) ∧ Aside0 (Kd.R (Kd.int .i64) 3 wc w.heap.size (fun k_ => some k_ ≠ ((.slice Ao12 x5_2.length co12) : Value).ownBlock ∧ some k_ ≠ (v411 : Value).ownBlock ∧ some k_ ≠ ((.slice (some ad423) x137_2.length co34) : Value).ownBlock) (.slice Ao98 x6_2.length co98) x6_2) ∧ Aside0 (Kd.R (Kd.int .i64) 3 wc w.heap.size (fun k_ => some k_ ≠ ((.slice Ao12 x5_2.length co12) : Value).ownBlock ∧ some k_ ≠ ((.slice Ao98 x6_2.length co98) : Value).ownBlock ∧ some k_ ≠ (v411 : Value).ownBlock ∧ some k_ ≠ ((.slice Ao98 x6_2.length co98) : Value).ownBlock) (.slice (some ad423) x137_2.length co34) x137_2) ∧ Aside0 (Below w.heap.size w wc))
             case first => as_aux_lemma =>
              have H := HC110.out
              clear HC110
              by_cases c111 : (x6_2.length : Int) = (rd x137_2 x139_2)
              rotate_left
              ·rw [if_neg c111] at H; exact absurd H (by have hr_ := HRT.out; cases k4 <;> simp [laws_FnTonesFound.j4, hr_])
              as_aux_lemma =>
               rw [if_pos c111] at H
               have c111b0 : ((x6_2.length : Int) == (rd x137_2 x139_2)) = true := beq_iff_eq.mpr c111
               have c111b1 : ((x6_2.length : Int) != (rd x137_2 x139_2)) = false := bne_eq_false_iff_eq.mpr c111
               clear c111
               (first | rw [c111b0] | (simp only [i64_w, i32_w]; rw [c111b0]) | skip)
               have H' := Aside0.mk H
               clear H
               go_wp2
               repeat (go_quiet (fail); try go_wp2)
               go_meet
               case rel => exact ⟨_, ((x20_4 != (wrap64 ((rd x137_2 x139_2) * x21_4)))), (by first | rfl | (simp; done) | (simp [*]; done)), H', ⟨by have := HJ9.out; have := HK2.out; have := HK3.out; have := HK4.out; first | omega | exact Nat.le_refl _⟩, ⟨by (try simp only [hl5_2]); (try simp only [hl137_2]); (with_reducible repeat (first | apply Kd.R_alloc | apply Kd.R_drewN | apply Kd.R_drew)); exact Kd.R_mono HO_5.out (fun _ hk => ⟨hk.1, ⟨hk.2.1, ⟨hk.2.2.1, hk.2.2.2.2.1⟩⟩⟩)⟩, ⟨by (try simp only [hl5_2]); (try simp only [hl137_2]); (with_reducible repeat (first | apply Kd.R_alloc | apply Kd.R_drewN | apply Kd.R_drew)); exact Kd.R_mono HO_6.out (fun _ hk => ⟨hk.1, ⟨hk.2.1, hk.2.2.2⟩⟩)⟩, ⟨by (try simp only [hl5_2]); (try simp only [hl137_2]); (with_reducible repeat (first | apply Kd.R_alloc | apply Kd.R_drewN | apply Kd.R_drew)); exact Kd.R_mono HO_10.out (fun _ hk => ⟨hk.1, ⟨hk.2.1, ⟨hk.2.2.1, hk.2.2.2.2.1⟩⟩⟩)⟩, ⟨by (try simp only [hl5_2]); (try simp only [hl137_2]); (with_reducible repeat (first | apply Kd.R_alloc | apply Kd.R_drewN | apply Kd.R_drew)); exact Kd.R_mono HO_16.out (fun _ hk => ⟨hk.1, ⟨hk.2.1, hk.2.2.2⟩⟩)⟩, ⟨by (try simp only [hl5_2]); (try simp only [hl137_2]); (with_reducible repeat (first | apply Kd.R_alloc | apply Kd.R_drewN | apply Kd.R_drew)); exact Kd.R_mono HO_137.out (fun _ hk => ⟨hk.1, ⟨hk.2.1, ⟨hk.2.2.1, hk.2.2.2.1⟩⟩⟩)⟩, ⟨xB HB.out⟩⟩
             case rest => as_aux_lemma =>
              clear HC110
              try clear c99b0
              obtain ⟨kq, x212_109, rfl, HA, HJ109, HO_5, HO_6, HO_10, HO_16, HO_137, HB⟩ := hcut
              cases kq with
              | zero => exact absurd HA.out (by simp [laws_FnTonesFound.j4])
              | succ kj109 =>
               have H := HA.out
               clear HA
               simp only [laws_FnTonesFound.j4] at H
               by_cases c112 : x212_109 = true
               ·as_aux_lemma =>
                 subst c112
                 rw [if_pos rfl] at H
                 exact absurd ((Option.some.inj H).trans HRT.out) (by decide)
               replace c112 := Bool.eq_false_iff.mpr c112
               subst c112
               rw [if_neg (show ¬ (false = true) by decide)] at H
               replace H := Option.bind_eq_some_iff.mp H
               obtain ⟨⟨t434, t435⟩, A1130, H⟩ := H
               (try dsimp only at H)
               have A113 := Aside0.mk A1130
               clear A1130
               have HC114 := Aside0.mk H
               clear H
               go_upto_region 35 with (first | (go_at_call 13; (with_reducible refine (impl_StrongestPart.calls kj109 _ _ x5_2 (rd x137_2 x139_2) t434 t435 _ ?side1 ?side2 ?sideg A113.out).mono ?_); (case sideg => exact GLob.below HGL.out (xB HB.out)); (case side1 => exact xC ((Kd.R_reads' HO_5.out).2.2)); (case side2 => exact (Kd.R_reads' HO_5.out).2.1); rintro e w115 ⟨rfl, hb⟩; replace HO_5 := Aside0.mk (Kd.R_below (xR HO_5.out) hb); replace HO_6 := Aside0.mk (Kd.R_below (xR HO_6.out) hb); replace HO_10 := Aside0.mk (Kd.R_below (xR HO_10.out) hb); replace HO_16 := Aside0.mk (Kd.R_below (xR HO_16.out) hb); replace HO_137 := Aside0.mk (Kd.R_below (xR HO_137.out) hb); replace HB := Aside0.mk (below_step (xB HB.out) hb); (try clear hb); (try clear hb2); (try clear hk); (try clear hi)))
               repeat (go_quiet (first | (go_at_call 13; (with_reducible refine (impl_StrongestPart.calls kj109 _ _ x5_2 (rd x137_2 x139_2) t434 t435 _ ?side1 ?side2 ?sideg A113.out).mono ?_); (case sideg => exact GLob.below HGL.out (xB HB.out)); (case side1 => exact xC ((Kd.R_reads' HO_5.out).2.2)); (case side2 => exact (Kd.R_reads' HO_5.out).2.1); rintro e w115 ⟨rfl, hb⟩; replace HO_5 := Aside0.mk (Kd.R_below (xR HO_5.out) hb); replace HO_6 := Aside0.mk (Kd.R_below (xR HO_6.out) hb); replace HO_10 := Aside0.mk (Kd.R_below (xR HO_10.out) hb); replace HO_16 := Aside0.mk (Kd.R_below (xR HO_16.out) hb); replace HO_137 := Aside0.mk (Kd.R_below (xR HO_137.out) hb); replace HB := Aside0.mk (below_step (xB HB.out) hb); (try clear hb); (try clear hb2); (try clear hk); (try clear hi))); go_upto_region 35 with (first | (go_at_call 13; (with_reducible refine (impl_StrongestPart.calls kj109 _ _ x5_2 (rd x137_2 x139_2) t434 t435 _ ?side1 ?side2 ?sideg A113.out).mono ?_); (case sideg => exact GLob.below HGL.out (xB HB.out)); (case side1 => exact xC ((Kd.R_reads' HO_5.out).2.2)); (case side2 => exact (Kd.R_reads' HO_5.out).2.1); rintro e w115 ⟨rfl, hb⟩; replace HO_5 := Aside0.mk (Kd.R_below (xR HO_5.out) hb); replace HO_6 := Aside0.mk (Kd.R_below (xR HO_6.out) hb); replace HO_10 := Aside0.mk (Kd.R_below (xR HO_10.out) hb); replace HO_16 := Aside0.mk (Kd.R_below (xR HO_16.out) hb); replace HO_137 := Aside0.mk (Kd.R_below (xR HO_137.out) hb); replace HB := Aside0.mk (below_step (xB HB.out) hb); (try clear hb); (try clear hb2); (try clear hk); (try clear hi))))
               (try simp only [Act.put, List.setIfInBounds_toArray, List.set_cons_zero, List.set_cons_succ])
               go_cut [229] (fun v229 wc => ∃ (kq : Nat) (x229_113 : Bool), v229 = .bool x229_113 ∧ Aside0 (laws_FnTonesFound.j5 kq l1 x5_2 x6_2 x10_2 x6_2 t434 x137_2 (y420.length : Int) x139_2 x229_113 = some r) ∧ Aside0 (kq ≤ kj109) ∧ Aside0 (Kd.R (Kd.int .i64) 3 wc w.heap.size (fun k_ => some k_ ≠ ((.slice Ao98 x6_2.length co98) : Value).ownBlock ∧ some k_ ≠ (v411 : Value).ownBlock ∧ some k_ ≠ ((.slice Ao98 x6_2.length co98) : Value).ownBlock ∧ some k_ ≠ ((.slice (some ad423) x137_2.length co34) : Value).ownBlock) (.slice Ao12 x5_2.length co12) x5_2) ∧ Aside0 (Kd.R (Kd.int .i64) 3 wc w.heap.size (fun k_ => some k_ ≠ ((.slice Ao12 x5_2.length co12) : Value).ownBlock ∧ some k_ ≠ (v411 : Value).ownBlock ∧ some k_ ≠ ((.slice (some ad423) x137_2.length co34) : Value).ownBlock) (.slice Ao98 x6_2.length co98) x6_2) ∧ Aside0 (Kd.R (Kd.int .i64) 3 wc w.heap.size (fun k_ => some k_ ≠ ((.slice Ao12 x5_2.length co12) : Value).ownBlock ∧ some k_ ≠ ((.slice Ao98 x6_2.length co98) : Value).ownBlock ∧ some k_ ≠ ((.slice Ao98 x6_2.length co98) : Value).ownBlock ∧ some k_ ≠ ((.slice (some ad423) x137_2.length co34) : Value).ownBlock) v411 x10_2) ∧ Aside0 (Kd.R (Kd.int .i64) 3 wc w.heap.size (fun k_ => some k_ ≠ ((.slice Ao12 x5_2.length co12) : Value).ownBlock ∧ some k_ ≠ (v411 : Value).ownBlock ∧ some k_ ≠ ((.slice (some ad423) x137_2.length co34) : Value).ownBlock) (.slice Ao98 x6_2.length co98) x6_2) ∧ Aside0 (Kd.R (Kd.int .i64) 3 wc w.heap.size (fun k_ => some k_ ≠ ((.slice Ao12 x5_2.length co12) : Value).ownBlock ∧ some k_ ≠ ((.slice Ao98 x6_2.length co98) : Value).ownBlock ∧ some k_ ≠ (v411 : Value).ownBlock ∧ some k_ ≠ ((.slice Ao98 x6_2.length co98) : Value).ownBlock) (.slice (some ad423) x137_2.length co34) x137_2) ∧ Aside0 (Below w.heap.size w wc))
               case first => as_aux_lemma =>
                have H := HC114.out
                clear HC114
                by_cases c116 : t435 = true
                rotate_left
                ·replace c116 := Bool.eq_false_iff.mpr c116; subst c116; exact absurd H (by have hr_ := HRT.out; cases kj109 <;> simp [laws_FnTonesFound.j5, hr_])
                as_aux_lemma =>
                 subst c116
                 rw [if_pos rfl] at H
                 by_cases c117 : t434 < 0
                 ·rw [if_pos c117] at H; exact absurd H (by have hr_ := HRT.out; cases kj109 <;> simp [laws_FnTonesFound.j5, hr_])
                 rw [if_neg c117] at H
                 have c117b0 : decide (t434 < 0) = false := decide_eq_false c117
                 clear c117
                 (first | rw [c117b0] | (simp only [i64_w, i32_w]; rw [c117b0]) | skip)
                 have H' := Aside0.mk H
                 clear H
                 go_wp2
                 repeat (go_quiet (fail); try go_wp2)
                 go_meet
                 case rel => exact ⟨_, (decide (t434 ≥ (rd x137_2 x139_2))), (by first | rfl | (simp; done) | (simp [*]; done)), H', ⟨by have := HJ9.out; have := HK2.out; have := HK3.out; have := HK4.out; have := HJ109.out; first | omega | exact Nat.le_refl _⟩, ⟨by (try simp only [hl5_2]); (try simp only [hl137_2]); (with_reducible repeat (first | apply Kd.R_alloc | apply Kd.R_drewN | apply Kd.R_drew)); exact HO_5.out⟩, ⟨by (try simp only [hl5_2]); (try simp only [hl137_2]); (with_reducible repeat (first | apply Kd.R_alloc | apply Kd.R_drewN | apply Kd.R_drew)); exact HO_6.out⟩, ⟨by (try simp only [hl5_2]); (try simp only [hl137_2]); (with_reducible repeat (first | apply Kd.R_alloc | apply Kd.R_drewN | apply Kd.R_drew)); exact HO_10.out⟩, ⟨by (try simp only [hl5_2]); (try simp only [hl137_2]); (with_reducible repeat (first | apply Kd.R_alloc | apply Kd.R_drewN | apply Kd.R_drew)); exact HO_16.out⟩, ⟨by (try simp only [hl5_2]); (try simp only [hl137_2]); (with_reducible repeat (first | apply Kd.R_alloc | apply Kd.R_drewN | apply Kd.R_drew)); exact HO_137.out⟩, ⟨xB HB.out⟩⟩
               case rest => as_aux_lemma =>
                clear HC114
                try clear c112
                obtain ⟨kq, x229_113, rfl, HA, HJ113, HO_5, HO_6, HO_10, HO_16, HO_137, HB⟩ := hcut
                cases kq with
                | zero => exact absurd HA.out (by simp [laws_FnTonesFound.j5])
                | succ kj113 =>
                 have H := HA.out
                 clear HA
                 simp only [laws_FnTonesFound.j5] at H
                 by_cases c118 : x229_113 = true
                 ·as_aux_lemma =>
                   subst c118
                   rw [if_pos rfl] at H
                   exact absurd ((Option.some.inj H).trans HRT.out) (by decide)
                 replace c118 := Bool.eq_false_iff.mpr c118
                 subst c118
                 rw [if_neg (show ¬ (false = true) by decide)] at H
                 have H' := Aside0.mk H
                 clear H
                 go_wp2
                 repeat (go_quiet (fail); try go_wp2)
                 go_loopg [232] kj113 (fun kq v232 w' => ∃ (x232_7 : Int), v232 = .int .i64 x232_7 ∧ Aside0 (laws_FnTonesFound.l3 kq l1 x5_2 x6_2 x10_2 x6_2 t434 x137_2 (y420.length : Int) x139_2 x6_2 (x6_2.length : Int) x232_7 = some r) ∧ Aside0 (kq ≤ kj113) ∧ Aside0 (Kd.R (Kd.int .i64) 3 w' w.heap.size (fun k_ => some k_ ≠ ((.slice Ao98 x6_2.length co98) : Value).ownBlock ∧ some k_ ≠ (v411 : Value).ownBlock ∧ some k_ ≠ ((.slice Ao98 x6_2.length co98) : Value).ownBlock ∧ some k_ ≠ ((.slice (some ad423) x137_2.length co34) : Value).ownBlock ∧ some k_ ≠ ((.slice Ao98 x6_2.length co98) : Value).ownBlock) (.slice Ao12 x5_2.length co12) x5_2) ∧ Aside0 (Kd.R (Kd.int .i64) 3 w' w.heap.size (fun k_ => some k_ ≠ ((.slice Ao12 x5_2.length co12) : Value).ownBlock ∧ some k_ ≠ (v411 : Value).ownBlock ∧ some k_ ≠ ((.slice (some ad423) x137_2.length co34) : Value).ownBlock) (.slice Ao98 x6_2.length co98) x6_2) ∧ Aside0 (Kd.R (Kd.int .i64) 3 w' w.heap.size (fun k_ => some k_ ≠ ((.slice Ao12 x5_2.length co12) : Value).ownBlock ∧ some k_ ≠ ((.slice Ao98 x6_2.length co98) : Value).ownBlock ∧ some k_ ≠ ((.slice Ao98 x6_2.length co98) : Value).ownBlock ∧ some k_ ≠ ((.slice (some ad423) x137_2.length co34) : Value).ownBlock ∧ some k_ ≠ ((.slice Ao98 x6_2.length co98) : Value).ownBlock) v411 x10_2) ∧ Aside0 (Kd.R (Kd.int .i64) 3 w' w.heap.size (fun k_ => some k_ ≠ ((.slice Ao12 x5_2.length co12) : Value).ownBlock ∧ some k_ ≠ (v411 : Value).ownBlock ∧ some k_ ≠ ((.slice (some ad423) x137_2.length co34) : Value).ownBlock) (.slice Ao98 x6_2.length co98) x6_2) ∧ Aside0 (Kd.R (Kd.int .i64) 3 w' w.heap.size (fun k_ => some k_ ≠ ((.slice Ao12 x5_2.length co12) : Value).ownBlock ∧ some k_ ≠ ((.slice Ao98 x6_2.length co98) : Value).ownBlock ∧ some k_ ≠ (v411 : Value).ownBlock ∧ some k_ ≠ ((.slice Ao98 x6_2.length co98) : Value).ownBlock ∧ some k_ ≠ ((.slice Ao98 x6_2.length co98) : Value).ownBlock) (.slice (some ad423) x137_2.length co34) x137_2) ∧ Aside0 (Kd.R (Kd.int .i64) 3 w' w.heap.size (fun k_ => some k_ ≠ ((.slice Ao12 x5_2.length co12) : Value).ownBlock ∧ some k_ ≠ (v411 : Value).ownBlock ∧ some k_ ≠ ((.slice (some ad423) x137_2.length co34) : Value).ownBlock) (.slice Ao98 x6_2.length co98) x6_2) ∧ Aside0 (Below w.heap.size w w'))
                 case atStart => exact ⟨(0), (by first | rfl | (simp; done) | (simp [*]; done)), H', ⟨Nat.le_refl _⟩, ⟨by (try simp only [hl5_2]); (try simp only [hl137_2]); (with_reducible repeat (first | apply Kd.R_alloc | apply Kd.R_drewN | apply Kd.R_drew)); exact Kd.R_mono HO_5.out (fun _ hk => ⟨hk.1, ⟨hk.2.1, ⟨hk.2.2.1, ⟨hk.2.2.2, hk.2.2.1⟩⟩⟩⟩)⟩, ⟨by (try simp only [hl5_2]); (try simp only [hl137_2]); (with_reducible repeat (first | apply Kd.R_alloc | apply Kd.R_drewN | apply Kd.R_drew)); exact HO_6.out⟩, ⟨by (try simp only [hl5_2]); (try simp only [hl137_2]); (with_reducible repeat (first | apply Kd.R_alloc | apply Kd.R_drewN | apply Kd.R_drew)); exact Kd.R_mono HO_10.out (fun _ hk => ⟨hk.1, ⟨hk.2.1, ⟨hk.2.2.1, ⟨hk.2.2.2, hk.2.2.1⟩⟩⟩⟩)⟩, ⟨by (try simp only [hl5_2]); (try simp only [hl137_2]); (with_reducible repeat (first | apply Kd.R_alloc | apply Kd.R_drewN | apply Kd.R_drew)); exact HO_16.out⟩, ⟨by (try simp only [hl5_2]); (try simp only [hl137_2]); (with_reducible repeat (first | apply Kd.R_alloc | apply Kd.R_drewN | apply Kd.R_drew)); exact Kd.R_mono HO_137.out (fun _ hk => ⟨hk.1, ⟨hk.2.1, ⟨hk.2.2.1, ⟨hk.2.2.2, hk.2.2.2⟩⟩⟩⟩)⟩, ⟨by (try simp only [hl5_2]); (try simp only [hl137_2]); (with_reducible repeat (first | apply Kd.R_alloc | apply Kd.R_drewN | apply Kd.R_drew)); exact HO_16.out⟩, ⟨xB HB.out⟩⟩
                 case round =>
                  clear H'
                  try clear c118
                  obtain ⟨x232_7, rfl, HA, HK7, HO_5, HO_6, HO_10, HO_16, HO_137, HO_230, HB⟩ := hrel
                  cases gk with
                  | zero => exact absurd HA.out (by simp [laws_FnTonesFound.l3])
                  | succ k7 =>
                   have H := HA.out
                   clear HA
                   simp only [laws_FnTonesFound.l3] at H
                   by_cases c119 : x232_7 < (x6_2.length : Int)
                   rotate_left
                   ·as_aux_lemma =>
                     rw [if_neg c119] at H
                     have c119b0 : decide (x232_7 < (x6_2.length : Int)) = false := decide_eq_false c119
                     (try (have c119b5 := c119b0; rw [hl5_2] at c119b5))
                     (try (have c119b6 := c119b0; rw [hl137_2] at c119b6))
                     clear c119
                     have H' := Aside0.mk H
                     clear H
                     go_wp2
                     repeat (go_quiet (fail); try go_wp2)
                     (try simp only [← hl5_2, ← hl137_2])
                     go_roundg k7
                     case measure => have := HJ9.out; have := HK2.out; have := HK3.out; have := HK4.out; have := HJ109.out; have := HJ113.out; have := HK7.out; omega
                     case rel => exact ⟨(x5_2), (x6_2), (x10_2), (x137_2), (wrap64 (x139_2 + 1)), (by first | rfl | (simp; done) | (simp [*]; done)), H', ⟨by have := HJ9.out; have := HK2.out; have := HK3.out; have := HK4.out; have := HJ109.out; have := HJ113.out; have := HK7.out; omega⟩, ⟨by (try simp only [hl5_2]); (try simp only [hl137_2]); (with_reducible repeat (first | apply Kd.R_alloc | apply Kd.R_drewN | apply Kd.R_drew)); exact Kd.R_mono HO_5.out (fun _ hk => ⟨hk.1, ⟨hk.2.1, hk.2.2.2.1⟩⟩)⟩, ⟨by (try simp only [hl5_2]); (try simp only [hl137_2]); (with_reducible repeat (first | apply Kd.R_alloc | apply Kd.R_drewN | apply Kd.R_drew)); exact HO_6.out⟩, ⟨by (try simp only [hl5_2]); (try simp only [hl137_2]); (with_reducible repeat (first | apply Kd.R_alloc | apply Kd.R_drewN | apply Kd.R_drew)); exact Kd.R_mono HO_10.out (fun _ hk => ⟨hk.1, ⟨hk.2.1, hk.2.2.2.1⟩⟩)⟩, ⟨by (try simp only [hl5_2]); (try simp only [hl137_2]); (with_reducible repeat (first | apply Kd.R_alloc | apply Kd.R_drewN | apply Kd.R_drew)); exact Kd.R_mono HO_137.out (fun _ hk => ⟨hk.1, ⟨hk.2.1, hk.2.2.1⟩⟩)⟩, ⟨xB HB.out⟩⟩
                   rw [if_pos c119] at H
                   have c119b0 : decide (x232_7 < (x6_2.length : Int)) = true := decide_eq_true c119
                   (try (have c119b5 := c119b0; rw [hl5_2] at c119b5))
                   (try (have c119b6 := c119b0; rw [hl137_2] at c119b6))
                   clear c119
                   by_cases c120 : 0 ≤ x232_7
                   rotate_left
                   ·rw [if_neg c120] at H
                    exact absurd H (by simp)
                   rw [if_pos c120] at H
                   have c120b0 : decide (0 ≤ x232_7) = true := decide_eq_true c120
                   clear c120
                   by_cases c121 : x232_7 < (x6_2.length : Int)
                   rotate_left
                   ·rw [if_neg c121] at H
                    exact absurd H (by simp)
                   rw [if_pos c121] at H
                   have c121b0 : decide (x232_7 < (x6_2.length : Int)) = true := decide_eq_true c121
                   (try (have c121b5 := c121b0; rw [hl5_2] at c121b5))
                   (try (have c121b6 := c121b0; rw [hl137_2] at c121b6))
                   clear c121
                   by_cases c122 : 0 ≤ t434
                   rotate_left
                   ·rw [if_neg c122] at H
                    exact absurd H (by simp)
                   rw [if_pos c122] at H
                   have c122b0 : decide (0 ≤ t434) = true := decide_eq_true c122
                   clear c122
                   by_cases c123 : t434 < (x6_2.length : Int)
                   rotate_left
                   ·rw [if_neg c123] at H
                    exact absurd H (by simp)
                   rw [if_pos c123] at H
                   have c123b0 : decide (t434 < (x6_2.length : Int)) = true := decide_eq_true c123
                   (try (have c123b5 := c123b0; rw [hl5_2] at c123b5))
                   (try (have c123b6 := c123b0; rw [hl137_2] at c123b6))
                   clear c123
                   by_cases c124 : (rd x6_2 x232_7) > (rd x6_2 t434)
                   ·rw [if_pos c124] at H
                    have c124b0 : decide ((rd x6_2 t434) < (rd x6_2 x232_7)) = true := decide_eq_true c124
                    clear c124
                    exact absurd ((Option.some.inj H).trans HRT.out) (by decide)
                   rw [if_neg c124] at H
                   have c124b0 : decide ((rd x6_2 t434) < (rd x6_2 x232_7)) = false := decide_eq_false c124
                   clear c124
                   by_cases c125 : x232_7 < t434
                   rotate_left
                   ·as_aux_lemma =>
                     rw [if_neg c125] at H
                     have c125b0 : decide (x232_7 < t434) = false := decide_eq_false c125
                     clear c125
                     have H' := Aside0.mk H
                     clear H
                     have p436 : 0 ≤ (x232_7 : Int) := of_decide_eq_true (by first | (with_reducible assumption) | assumption)
                     have q436 : x232_7 < (x6_2.length : Int) := of_decide_eq_true (by first | (with_reducible assumption) | assumption)
                     obtain ⟨ad436, e436, hx436_0⟩ := Kd.at_int (Kd.R_reads' HO_230.out).2.2 x232_7 p436 q436
                     cases e436
                     replace p436 := eq_true p436
                     replace q436 := eq_true q436
                     have p437 : 0 ≤ (t434 : Int) := of_decide_eq_true (by first | (with_reducible assumption) | assumption)
                     have q437 : t434 < (x6_2.length : Int) := of_decide_eq_true (by first | (with_reducible assumption) | assumption)
                     obtain ⟨ad437, e437, hx437_0⟩ := Kd.at_int (Kd.R_reads' HO_16.out).2.2 t434 p437 q437
                     obtain rfl : ad436 = ad437 := (by injection e437)
                     replace p437 := eq_true p437
                     replace q437 := eq_true q437
                     go_wp2
                     repeat (go_quiet (fail); try go_wp2)
                     go_roundg k7
                     case measure => have := HJ9.out; have := HK2.out; have := HK3.out; have := HK4.out; have := HJ109.out; have := HJ113.out; have := HK7.out; omega
                     case rel => exact ⟨(wrap64 (x232_7 + 1)), (by first | rfl | (simp; done) | (simp [*]; done)), H', ⟨by have := HJ9.out; have := HK2.out; have := HK3.out; have := HK4.out; have := HJ109.out; have := HJ113.out; have := HK7.out; omega⟩, ⟨by (try simp only [hl5_2]); (try simp only [hl137_2]); (with_reducible repeat (first | apply Kd.R_alloc | apply Kd.R_drewN | apply Kd.R_drew)); exact HO_5.out⟩, ⟨by (try simp only [hl5_2]); (try simp only [hl137_2]); (with_reducible repeat (first | apply Kd.R_alloc | apply Kd.R_drewN | apply Kd.R_drew)); exact HO_6.out⟩, ⟨by (try simp only [hl5_2]); (try simp only [hl137_2]); (with_reducible repeat (first | apply Kd.R_alloc | apply Kd.R_drewN | apply Kd.R_drew)); exact HO_10.out⟩, ⟨by (try simp only [hl5_2]); (try simp only [hl137_2]); (with_reducible repeat (first | apply Kd.R_alloc | apply Kd.R_drewN | apply Kd.R_drew)); exact HO_16.out⟩, ⟨by (try simp only [hl5_2]); (try simp only [hl137_2]); (with_reducible repeat (first | apply Kd.R_alloc | apply Kd.R_drewN | apply Kd.R_drew)); exact HO_137.out⟩, ⟨by (try simp only [hl5_2]); (try simp only [hl137_2]); (with_reducible repeat (first | apply Kd.R_alloc | apply Kd.R_drewN | apply Kd.R_drew)); exact HO_230.out⟩, ⟨xB HB.out⟩⟩
                   as_aux_lemma =>
                    rw [if_pos c125] at H
                    have c125b0 : decide (x232_7 < t434) = true := decide_eq_true c125
                    clear c125
                    by_cases c126 : (rd x6_2 x232_7) = (rd x6_2 t434)
                    ·rw [if_pos c126] at H
                     have c126b0 : ((rd x6_2 x232_7) == (rd x6_2 t434)) = true := beq_iff_eq.mpr c126
                     have c126b1 : ((rd x6_2 x232_7) != (rd x6_2 t434)) = false := bne_eq_false_iff_eq.mpr c126
                     clear c126
                     exact absurd ((Option.some.inj H).trans HRT.out) (by decide)
                    rw [if_neg c126] at H
                    have c126b0 : ((rd x6_2 x232_7) == (rd x6_2 t434)) = false := beq_eq_false_iff_ne.mpr c126
                    have c126b1 : ((rd x6_2 x232_7) != (rd x6_2 t434)) = true := bne_iff_ne.mpr c126
                    have H' := Aside0.mk H
                    clear H
                    have p436 : 0 ≤ (x232_7 : Int) := of_decide_eq_true (by first | (with_reducible assumption) | assumption)
                    have q436 : x232_7 < (x6_2.length : Int) := of_decide_eq_true (by first | (with_reducible assumption) | assumption)
                    obtain ⟨ad436, e436, hx436_0⟩ := Kd.at_int (Kd.R_reads' HO_230.out).2.2 x232_7 p436 q436
                    cases e436
                    replace p436 := eq_true p436
                    replace q436 := eq_true q436
                    have p437 : 0 ≤ (t434 : Int) := of_decide_eq_true (by first | (with_reducible assumption) | assumption)
                    have q437 : t434 < (x6_2.length : Int) := of_decide_eq_true (by first | (with_reducible assumption) | assumption)
                    obtain ⟨ad437, e437, hx437_0⟩ := Kd.at_int (Kd.R_reads' HO_16.out).2.2 t434 p437 q437
                    obtain rfl : ad436 = ad437 := (by injection e437)
                    replace p437 := eq_true p437
                    replace q437 := eq_true q437
                    have p438 : 0 ≤ (t434 : Int) := of_decide_eq_true (by first | (with_reducible assumption) | assumption)
                    have q438 : t434 < (x6_2.length : Int) := of_decide_eq_true (by first | (with_reducible assumption) | assumption)
                    obtain ⟨ad438, e438, hx438_0⟩ := Kd.at_int (Kd.R_reads' HO_16.out).2.2 t434 p438 q438
                    obtain rfl : ad436 = ad438 := (by injection e438)
                    replace p438 := eq_true p438
                    replace q438 := eq_true q438
                    go_wp2
                    repeat (go_quiet (fail); try go_wp2)
                    go_roundg k7
                    case measure => have := HJ9.out; have := HK2.out; have := HK3.out; have := HK4.out; have := HJ109.out; have := HJ113.out; have := HK7.out; omega
                    case rel => exact ⟨(wrap64 (x232_7 + 1)), (by first | rfl | (simp; done) | (simp [*]; done)), H', ⟨by have := HJ9.out; have := HK2.out; have := HK3.out; have := HK4.out; have := HJ109.out; have := HJ113.out; have := HK7.out; omega⟩, ⟨by (try simp only [hl5_2]); (try simp only [hl137_2]); (with_reducible repeat (first | apply Kd.R_alloc | apply Kd.R_drewN | apply Kd.R_drew)); exact HO_5.out⟩, ⟨by (try simp only [hl5_2]); (try simp only [hl137_2]); (with_reducible repeat (first | apply Kd.R_alloc | apply Kd.R_drewN | apply Kd.R_drew)); exact HO_6.out⟩, ⟨by (try simp only [hl5_2]); (try simp only [hl137_2]); (with_reducible repeat (first | apply Kd.R_alloc | apply Kd.R_drewN | apply Kd.R_drew)); exact HO_10.out⟩, ⟨by (try simp only [hl5_2]); (try simp only [hl137_2]); (with_reducible repeat (first | apply Kd.R_alloc | apply Kd.R_drewN | apply Kd.R_drew)); exact HO_16.out⟩, ⟨by (try simp only [hl5_2]); (try simp only [hl137_2]); (with_reducible repeat (first | apply Kd.R_alloc | apply Kd.R_drewN | apply Kd.R_drew)); exact HO_137.out⟩, ⟨by (try simp only [hl5_2]); (try simp only [hl137_2]); (with_reducible repeat (first | apply Kd.R_alloc | apply Kd.R_drewN | apply Kd.R_drew)); exact HO_230.out⟩, ⟨xB HB.out⟩⟩
      rw [if_pos c38] at H
      have c38b0 : ((rd x137_2 x139_2) == 6) = true := beq_iff_eq.mpr c38
      have c38b1 : ((rd x137_2 x139_2) != 6) = false := bne_eq_false_iff_eq.mpr c38
      clear c38
      by_cases c39 : 0 ≤ (rd x137_2 x139_2)
      rotate_left
      ·rw [if_neg c39] at H
       exact absurd H (by simp)
      rw [if_pos c39] at H
      have c39b0 := eq_true c39
      have c39b1 : decide (0 ≤ (rd x137_2 x139_2)) = true := decide_eq_true c39
      clear c39
      by_cases c40 : (rd x137_2 x139_2 : Int).toNat ≤ 35184372088832
      rotate_left
      ·rw [if_neg c40] at H
       exact absurd H (by simp)
      rw [if_pos c40] at H
      have c40b0 := eq_true c40
      have c40b1 : decide ((rd x137_2 x139_2 : Int).toNat ≤ 35184372088832) = true := decide_eq_true c40
      clear c40
      obtain ⟨y424, hy424⟩ : ∃ y_ : List Int, y_ = (List.replicate (rd x137_2 x139_2 : Int).toNat 0) := ⟨_, rfl⟩
      replace H : (laws_FnTonesFound.l1 k2 l1 x5_2 x6_2 x10_2 (rd x137_2 x139_2) x10_2 y424 x137_2 (y420.length : Int) x139_2 x5_2 (x5_2.length : Int) 0) = some r := by first | (rw [hy424]; with_reducible exact H) | (have H2_ := (Option.bind_some _ _).symm.trans H; rw [hy424]; with_reducible exact H2_) | (have H2_ := (Option.bind_some _ _).symm.trans H; with_reducible exact H2_) | with_reducible exact H | (rw [hy424]; exact H) | exact H
      have Ny424 := Aside0.mk hy424
      clear hy424
      have H' := Aside0.mk H
      clear H
      have p423 : 0 ≤ (x139_2 : Int) := of_decide_eq_true (by first | (with_reducible assumption) | assumption)
      have q423 : x139_2 < (x137_2.length : Int) := of_decide_eq_true (by first | (with_reducible assumption) | assumption)
      obtain ⟨ad423, e423, hx423_0⟩ := Kd.at_int (Kd.R_reads' HO_137.out).2.2 x139_2 p423 q423
      cases e423
      replace p423 := eq_true p423
      replace q423 := eq_true q423
      go_wp2_with (first | ((with_reducible refine gate_dst (N := 148) rfl ?_); refine Kd.R_make (Kd.int .i64) _ 3 rfl (N := 148) rfl 24 _ _ rfl (rd x137_2 x139_2) rfl rfl Tryd.underlying24 (.int .i64 0) 8 info3 rfl (by decide) (by omega) 0 (ok := fun _ => True) (okp := fun _ => True) rfl (fun _ hk => hk) trivial (of_decide_eq_true (by first | (with_reducible assumption) | assumption)) (Nat.le_trans (Nat.mul_le_mul_right _ (of_decide_eq_true (by first | (with_reducible assumption) | assumption) : (rd x137_2 x139_2).toNat ≤ 35184372088832)) (by omega)) (Below.refl _ _) (Nat.le_refl _) ?_; intro v425 w41 ho42 hb hg_ hnew_; clear hg_ hnew_; (first | rw [← Ny424.out] at ho42 | (simp only [Int.reduceToNat] at ho42; rw [← Ny424.out] at ho42)); have HO426 := Aside0.mk (Kd.R_lower (Kd.R_new' (Kd.R_new' (Kd.R_new' (Kd.R_new' ho42 (Kd.R_lt (xR HO_5.out))) (Kd.R_lt (xR HO_6.out))) (Kd.R_lt (xR HO_10.out))) (Kd.R_lt (xR HO_137.out))) (below_size (xB HB.out))); replace HO_5 := Aside0.mk (Kd.R_elder' (xR HO_5.out) (Kd.R_base ho42) hb); replace HO_6 := Aside0.mk (Kd.R_elder' (xR HO_6.out) (Kd.R_base ho42) hb); replace HO_10 := Aside0.mk (Kd.R_elder' (xR HO_10.out) (Kd.R_base ho42) hb); replace HO_137 := Aside0.mk (Kd.R_elder' (xR HO_137.out) (Kd.R_base ho42) hb); replace HB := Aside0.mk (below_step (xB HB.out) hb); clear hb ho42))
      repeat (go_quiet (first | ((with_reducible refine gate_dst (N := 148) rfl ?_); refine Kd.R_make (Kd.int .i64) _ 3 rfl (N := 148) rfl 24 _ _ rfl (rd x137_2 x139_2) rfl rfl Tryd.underlying24 (.int .i64 0) 8 info3 rfl (by decide) (by omega) 0 (ok := fun _ => True) (okp := fun _ => True) rfl (fun _ hk => hk) trivial (of_decide_eq_true (by first | (with_reducible assumption) | assumption)) (Nat.le_trans (Nat.mul_le_mul_right _ (of_decide_eq_true (by first | (with_reducible assumption) | assumption) : (rd x137_2 x139_2).toNat ≤ 35184372088832)) (by omega)) (Below.refl _ _) (Nat.le_refl _) ?_; intro v425 w41 ho42 hb hg_ hnew_; clear hg_ hnew_; (first | rw [← Ny424.out] at ho42 | (simp only [Int.reduceToNat] at ho42; rw [← Ny424.out] at ho42)); have HO426 := Aside0.mk (Kd.R_lower (Kd.R_new' (Kd.R_new' (Kd.R_new' (Kd.R_new' ho42 (Kd.R_lt (xR HO_5.out))) (Kd.R_lt (xR HO_6.out))) (Kd.R_lt (xR HO_10.out))) (Kd.R_lt (xR HO_137.out))) (below_size (xB HB.out))); replace HO_5 := Aside0.mk (Kd.R_elder' (xR HO_5.out) (Kd.R_base ho42) hb); replace HO_6 := Aside0.mk (Kd.R_elder' (xR HO_6.out) (Kd.R_base ho42) hb); replace HO_10 := Aside0.mk (Kd.R_elder' (xR HO_10.out) (Kd.R_base ho42) hb); replace HO_137 := Aside0.mk (Kd.R_elder' (xR HO_137.out) (Kd.R_base ho42) hb); replace HB := Aside0.mk (below_step (xB HB.out) hb); clear hb ho42)); try go_wp2_with (first | ((with_reducible refine gate_dst (N := 148) rfl ?_); refine Kd.R_make (Kd.int .i64) _ 3 rfl (N := 148) rfl 24 _ _ rfl (rd x137_2 x139_2) rfl rfl Tryd.underlying24 (.int .i64 0) 8 info3 rfl (by decide) (by omega) 0 (ok := fun _ => True) (okp := fun _ => True) rfl (fun _ hk => hk) trivial (of_decide_eq_true (by first | (with_reducible assumption) | assumption)) (Nat.le_trans (Nat.mul_le_mul_right _ (of_decide_eq_true (by first | (with_reducible assumption) | assumption) : (rd x137_2 x139_2).toNat ≤ 35184372088832)) (by omega)) (Below.refl _ _) (Nat.le_refl _) ?_; intro v425 w41 ho42 hb hg_ hnew_; clear hg_ hnew_; (first | rw [← Ny424.out] at ho42 | (simp only [Int.reduceToNat] at ho42; rw [← Ny424.out] at ho42)); have HO426 := Aside0.mk (Kd.R_lower (Kd.R_new' (Kd.R_new' (Kd.R_new' (Kd.R_new' ho42 (Kd.R_lt (xR HO_5.out))) (Kd.R_lt (xR HO_6.out))) (Kd.R_lt (xR HO_10.out))) (Kd.R_lt (xR HO_137.out))) (below_size (xB HB.out))); replace HO_5 := Aside0.mk (Kd.R_elder' (xR HO_5.out) (Kd.R_base ho42) hb); replace HO_6 := Aside0.mk (Kd.R_elder' (xR HO_6.out) (Kd.R_base ho42) hb); replace HO_10 := Aside0.mk (Kd.R_elder' (xR HO_10.out) (Kd.R_base ho42) hb); replace HO_137 := Aside0.mk (Kd.R_elder' (xR HO_137.out) (Kd.R_base ho42) hb); replace HB := Aside0.mk (below_step (xB HB.out) hb); clear hb ho42)))
      go_loopg [151] k2 (fun kq v151 w' => ∃ (x17_3 : List Int) (x151_3 : Int), v151 = .int .i64 x151_3 ∧ Aside0 (laws_FnTonesFound.l1 kq l1 x5_2 x6_2 x10_2 (rd x137_2 x139_2) x10_2 x17_3 x137_2 (y420.length : Int) x139_2 x5_2 (x5_2.length : Int) x151_3 = some r) ∧ Aside0 (kq ≤ k2) ∧ Aside0 (Kd.R (Kd.int .i64) 3 w' w.heap.size (fun k_ => some k_ ≠ (v403 : Value).ownBlock ∧ some k_ ≠ (v411 : Value).ownBlock ∧ some k_ ≠ (v411 : Value).ownBlock ∧ some k_ ≠ (v425 : Value).ownBlock ∧ some k_ ≠ ((.slice (some ad423) x137_2.length co34) : Value).ownBlock) (.slice Ao12 x5_2.length co12) x5_2) ∧ Aside0 (Kd.R (Kd.int .i64) 3 w' w.heap.size (fun k_ => some k_ ≠ ((.slice Ao12 x5_2.length co12) : Value).ownBlock ∧ some k_ ≠ (v411 : Value).ownBlock ∧ some k_ ≠ (v411 : Value).ownBlock ∧ some k_ ≠ (v425 : Value).ownBlock ∧ some k_ ≠ ((.slice (some ad423) x137_2.length co34) : Value).ownBlock ∧ some k_ ≠ ((.slice Ao12 x5_2.length co12) : Value).ownBlock) v403 x6_2) ∧ Aside0 (Kd.R (Kd.int .i64) 3 w' w.heap.size (fun k_ => some k_ ≠ ((.slice Ao12 x5_2.length co12) : Value).ownBlock ∧ some k_ ≠ (v403 : Value).ownBlock ∧ some k_ ≠ (v425 : Value).ownBlock ∧ some k_ ≠ ((.slice (some ad423) x137_2.length co34) : Value).ownBlock ∧ some k_ ≠ ((.slice Ao12 x5_2.length co12) : Value).ownBlock) v411 x10_2) ∧ Aside0 (Kd.R (Kd.int .i64) 3 w' w.heap.size (fun k_ => some k_ ≠ ((.slice Ao12 x5_2.length co12) : Value).ownBlock ∧ some k_ ≠ (v403 : Value).ownBlock ∧ some k_ ≠ (v425 : Value).ownBlock ∧ some k_ ≠ ((.slice (some ad423) x137_2.length co34) : Value).ownBlock ∧ some k_ ≠ ((.slice Ao12 x5_2.length co12) : Value).ownBlock) v411 x10_2) ∧ Aside0 (Kd.R (Kd.int .i64) 3 w' w.heap.size (fun k_ => some k_ ≠ ((.slice Ao12 x5_2.length co12) : Value).ownBlock ∧ some k_ ≠ (v403 : Value).ownBlock ∧ some k_ ≠ (v411 : Value).ownBlock ∧ some k_ ≠ (v411 : Value).ownBlock ∧ some k_ ≠ ((.slice (some ad423) x137_2.length co34) : Value).ownBlock ∧ some k_ ≠ ((.slice Ao12 x5_2.length co12) : Value).ownBlock) v425 x17_3) ∧ Aside0 (Kd.R (Kd.int .i64) 3 w' w.heap.size (fun k_ => some k_ ≠ ((.slice Ao12 x5_2.length co12) : Value).ownBlock ∧ some k_ ≠ (v403 : Value).ownBlock ∧ some k_ ≠ (v411 : Value).ownBlock ∧ some k_ ≠ (v411 : Value).ownBlock ∧ some k_ ≠ (v425 : Value).ownBlock ∧ some k_ ≠ ((.slice Ao12 x5_2.length co12) : Value).ownBlock) (.slice (some ad423) x137_2.length co34) x137_2) ∧ Aside0 (Kd.R (Kd.int .i64) 3 w' w.heap.size (fun k_ => some k_ ≠ (v403 : Value).ownBlock ∧ some k_ ≠ (v411 : Value).ownBlock ∧ some k_ ≠ (v411 : Value).ownBlock ∧ some k_ ≠ (v425 : Value).ownBlock ∧ some k_ ≠ ((.slice (some ad423) x137_2.length co34) : Value).ownBlock) (.slice Ao12 x5_2.length co12) x5_2) ∧ Aside0 (Below w.heap.size w w'))
      case atStart => exact ⟨(y424), (0), (by first | rfl | (simp; done) | (simp [*]; done)), H', ⟨Nat.le_refl _⟩, ⟨by (try simp only [hl5_2]); (try simp only [hl137_2]); (with_reducible repeat (first | apply Kd.R_alloc | apply Kd.R_drewN | apply Kd.R_drew)); exact Kd.R_mono HO_5.out (fun _ hk => ⟨hk.1.1, ⟨hk.1.2.1, ⟨hk.1.2.1, ⟨hk.2, hk.1.2.2⟩⟩⟩⟩)⟩, ⟨by (try simp only [hl5_2]); (try simp only [hl137_2]); (with_reducible repeat (first | apply Kd.R_alloc | apply Kd.R_drewN | apply Kd.R_drew)); exact Kd.R_mono HO_6.out (fun _ hk => ⟨hk.1.1, ⟨hk.1.2.1, ⟨hk.1.2.1, ⟨hk.2, ⟨hk.1.2.2, hk.1.1⟩⟩⟩⟩⟩)⟩, ⟨by (try simp only [hl5_2]); (try simp only [hl137_2]); (with_reducible repeat (first | apply Kd.R_alloc | apply Kd.R_drewN | apply Kd.R_drew)); exact Kd.R_mono HO_10.out (fun _ hk => ⟨hk.1.1, ⟨hk.1.2.1, ⟨hk.2, ⟨hk.1.2.2, hk.1.1⟩⟩⟩⟩)⟩, ⟨by (try simp only [hl5_2]); (try simp only [hl137_2]); (with_reducible repeat (first | apply Kd.R_alloc | apply Kd.R_drewN | apply Kd.R_drew)); exact Kd.R_mono HO_10.out (fun _ hk => ⟨hk.1.1, ⟨hk.1.2.1, ⟨hk.2, ⟨hk.1.2.2, hk.1.1⟩⟩⟩⟩)⟩, ⟨by (try simp only [hl5_2]); (try simp only [hl137_2]); (with_reducible repeat (first | apply Kd.R_alloc | apply Kd.R_drewN | apply Kd.R_drew)); exact Kd.R_mono HO426.out (fun _ hk => ⟨hk.1.1.1.2, ⟨hk.1.1.2, ⟨hk.1.2, ⟨hk.1.2, ⟨hk.2, hk.1.1.1.2⟩⟩⟩⟩⟩)⟩, ⟨by (try simp only [hl5_2]); (try simp only [hl137_2]); (with_reducible repeat (first | apply Kd.R_alloc | apply Kd.R_drewN | apply Kd.R_drew)); exact Kd.R_mono HO_137.out (fun _ hk => ⟨hk.1.1, ⟨hk.1.2.1, ⟨hk.1.2.2, ⟨hk.1.2.2, ⟨hk.2, hk.1.1⟩⟩⟩⟩⟩)⟩, ⟨by (try simp only [hl5_2]); (try simp only [hl137_2]); (with_reducible repeat (first | apply Kd.R_alloc | apply Kd.R_drewN | apply Kd.R_drew)); exact Kd.R_mono HO_5.out (fun _ hk => ⟨hk.1.1, ⟨hk.1.2.1, ⟨hk.1.2.1, ⟨hk.2, hk.1.2.2⟩⟩⟩⟩)⟩, ⟨xB HB.out⟩⟩
      case round =>
       clear H'
       try clear c35b0
       try clear c36b0
       try clear c37b0
       try clear c38b0
       try clear c38b1
       try clear c39b0
       try clear c39b1
       try clear c40b0
       try clear c40b1
       try clear hx423_0
       try clear p423
       try clear q423
       obtain ⟨x17_3, x151_3, rfl, HA, HK3, HO_5, HO_6, HO_10, HO_16, HO_17, HO_137, HO_149, HB⟩ := hrel
       cases gk with
       | zero => exact absurd HA.out (by simp [laws_FnTonesFound.l1])
       | succ k3 =>
        have H := HA.out
        clear HA
        simp only [laws_FnTonesFound.l1] at H
        by_cases c43 : x151_3 < (x5_2.length : Int)
        ·as_aux_lemma =>
           rw [if_pos c43] at H
           have c43b0 : decide (x151_3 < (x5_2.length : Int)) = true := decide_eq_true c43
           (try (have c43b5 := c43b0; rw [hl5_2] at c43b5))
           (try (have c43b6 := c43b0; rw [hl137_2] at c43b6))
           clear c43
           by_cases c44 : 0 ≤ x151_3
           rotate_left
           ·rw [if_neg c44] at H
            exact absurd H (by simp)
           rw [if_pos c44] at H
           have c44b0 : decide (0 ≤ x151_3) = true := decide_eq_true c44
           clear c44
           by_cases c45 : x151_3 < (x5_2.length : Int)
           rotate_left
           ·rw [if_neg c45] at H
            exact absurd H (by simp)
           as_aux_lemma =>
            rw [if_pos c45] at H
            have c45b0 : decide (x151_3 < (x5_2.length : Int)) = true := decide_eq_true c45
            (try (have c45b5 := c45b0; rw [hl5_2] at c45b5))
            (try (have c45b6 := c45b0; rw [hl137_2] at c45b6))
            clear c45
            by_cases c46 : (rd x137_2 x139_2) = 0
            ·rw [if_pos c46] at H
             exact absurd H (by simp)
            rw [if_neg c46] at H
            have c46b0 : ((rd x137_2 x139_2) == 0) = false := beq_eq_false_iff_ne.mpr c46
            have c46b1 : ((rd x137_2 x139_2) != 0) = true := bne_iff_ne.mpr c46
            obtain ⟨ji47, hji47⟩ : ∃ j_ : Int, (Int.tmod x151_3 (rd x137_2 x139_2)) = j_ := ⟨_, rfl⟩
            replace H : (if 0 ≤ (ji47) then (if (ji47) < (x17_3.length : Int) then (laws_FnTonesFound.l1 k3 l1 x5_2 x6_2 x10_2 (rd x137_2 x139_2) x10_2 (x17_3.set ((ji47) : Int).toNat (wrap64 ((rd x17_3 (ji47)) + (rd x5_2 x151_3)))) x137_2 (y420.length : Int) x139_2 x5_2 (x5_2.length : Int) (wrap64 (x151_3 + 1))) else (none)) else (none)) = some r := by first | (rw [hji47] at H; exact H) | (simp only [hji47] at H ⊢; exact H)
            by_cases c48 : 0 ≤ (ji47)
            rotate_left
            ·rw [if_neg c48] at H
             exact absurd H (by simp)
            rw [if_pos c48] at H
            have c48b0 : decide (0 ≤ (ji47)) = true := decide_eq_true c48
            clear c48
            by_cases c49 : (ji47) < (x17_3.length : Int)
            rotate_left
            ·rw [if_neg c49] at H
             exact absurd H (by simp)
            rw [if_pos c49] at H
            have c49b0 : decide ((ji47) < (x17_3.length : Int)) = true := decide_eq_true c49
            (try (have c49b5 := c49b0; rw [hl5_2] at c49b5))
            (try (have c49b6 := c49b0; rw [hl137_2] at c49b6))
            clear c49
            obtain ⟨y429, hy429⟩ : ∃ y_ : List Int, y_ = (x17_3.set ((ji47) : Int).toNat (wrap64 ((rd x17_3 (ji47)) + (rd x5_2 x151_3)))) := ⟨_, rfl⟩
            replace H : (laws_FnTonesFound.l1 k3 l1 x5_2 x6_2 x10_2 (rd x137_2 x139_2) x10_2 y429 x137_2 (y420.length : Int) x139_2 x5_2 (x5_2.length : Int) (wrap64 (x151_3 + 1))) = some r := by first | (rw [hy429]; with_reducible exact H) | (have H2_ := (Option.bind_some _ _).symm.trans H; rw [hy429]; with_reducible exact H2_) | (have H2_ := (Option.bind_some _ _).symm.trans H; with_reducible exact H2_) | with_reducible exact H | (rw [hy429]; exact H) | exact H
            have Ny429 := Aside0.mk hy429
            clear hy429
            have H' := Aside0.mk H
            clear H
            have p427 : 0 ≤ (x151_3 : Int) := of_decide_eq_true (by first | (with_reducible assumption) | assumption)
            have q427 : x151_3 < (x5_2.length : Int) := of_decide_eq_true (by first | (with_reducible assumption) | assumption)
            obtain ⟨ad427, e427, hx427_0⟩ := Kd.at_int (Kd.R_reads' HO_149.out).2.2 x151_3 p427 q427
            cases e427
            replace p427 := eq_true p427
            replace q427 := eq_true q427
            obtain ⟨Ao51, co51, eo51⟩ := Kd.R_slice HO_17.out
            subst eo51
            have p428 : 0 ≤ ((ji47) : Int) := of_decide_eq_true (by first | (with_reducible assumption) | assumption | (rw [← hji47]; first | (with_reducible assumption) | assumption))
            have q428 : (ji47) < (x17_3.length : Int) := of_decide_eq_true (by first | (with_reducible assumption) | assumption | (rw [← hji47]; first | (with_reducible assumption) | assumption))
            obtain ⟨ad428, e428, hx428_0⟩ := Kd.at_int (Kd.R_reads' HO_17.out).2.2 (ji47) p428 q428
            cases e428
            replace p428 := eq_true p428
            replace q428 := eq_true q428
            have p50 : 0 ≤ ((ji47) : Int) := of_decide_eq_true (by first | (with_reducible assumption) | assumption | (rw [← hji47]; first | (with_reducible assumption) | assumption))
            have q50 : ((ji47) : Int) < ((x17_3.length : Int) : Int) := of_decide_eq_true (by first | (with_reducible assumption) | assumption | (rw [← hji47]; first | (with_reducible assumption) | assumption))
            obtain ⟨go50, co50, eo50, gb50, gl50, cl50, HG50⟩ := Kd.R_form HO_17.out (by omega)
            (first | cases eo50 | (injection eo50 with ea_ en_ ec_; (first | subst ea_ | (injection ea_ with ea_; subst ea_)); subst ec_; clear en_))
            have GB50 := Aside0.mk gb50
            have GG50 := Aside0.mk HG50
            clear gb50 gl50 HG50
            (first | simp only [add_plain] at hx428_0 | skip)
            obtain ⟨hx50_0, hf50_0⟩ := Kd.R_celln 0 HO_17.out ((ji47) : Int) p50 q50
            replace p50 := eq_true p50
            replace q50 := eq_true q50
            have HP52 := Kd.R_putg HO_17.out ((ji47) : Int) (wrap64 ((rd x17_3 (ji47)) + (rd x5_2 x151_3)))
            go_wp2_with (first | ((with_reducible refine gate_store (t := 3) (p := 164) rfl ?_); (try (rw [drewN_self wr]; generalize hq_ : World.drewN wr _ = wr; replace HO_5 := Aside0.mk (Kd.R_at hq_ HO_5.out); replace HO_6 := Aside0.mk (Kd.R_at hq_ HO_6.out); replace HO_10 := Aside0.mk (Kd.R_at hq_ HO_10.out); replace HO_16 := Aside0.mk (Kd.R_at hq_ HO_16.out); replace HO_17 := Aside0.mk (Kd.R_at hq_ HO_17.out); replace HO_137 := Aside0.mk (Kd.R_at hq_ HO_137.out); replace HO_149 := Aside0.mk (Kd.R_at hq_ HO_149.out); replace HB := Aside0.mk (below_at hq_ HB.out); clear hq_; (try (have HP52 := Kd.R_putg HO_17.out ((ji47) : Int) (wrap64 ((rd x17_3 (ji47)) + (rd x5_2 x151_3))))))); refine store_event (t := 3) (p := 164) (v := ?vo_w53) (w1 := (wr.setCell ⟨go50, ((ji47) : Int).toNat, none⟩ (.int .i64 (wrap64 ((rd x17_3 (ji47)) + (rd x5_2 x151_3)))))) ?hg ?ho ?hn ?hr ?_; (case ho => rfl); (case hg => rfl); (case hn => rfl); (case hr => first | (go_simp; done) | (go_simp; rfl)); intro w53 hw; have hg : wr.grownBy w53 (some go50) := (by rw [hw]; exact HP52.2); have hp_ : Kd.R (Kd.int .i64) 3 w53 w.heap.size (fun k_ => some k_ ≠ (.slice (some ad427) x5_2.length co12 : Value).ownBlock ∧ some k_ ≠ (v403 : Value).ownBlock ∧ some k_ ≠ (v411 : Value).ownBlock ∧ some k_ ≠ (v411 : Value).ownBlock ∧ some k_ ≠ (.slice (some ad423) x137_2.length co34 : Value).ownBlock ∧ some k_ ≠ (.slice (some ad427) x5_2.length co12 : Value).ownBlock) (.slice (some ⟨go50, 0, none⟩) x17_3.length co51) y429 := (by rw [hw, Ny429.out]; exact HP52.1); clear HP52; replace HO_5 := Aside0.mk (Kd.R_after (v := (.slice (some ⟨go50, 0, none⟩) x17_3.length co51)) (v1 := (.slice (some ⟨go50, 0, none⟩) x17_3.length co51)) (ok := (fun k_ => some k_ ≠ (v403 : Value).ownBlock ∧ some k_ ≠ (v411 : Value).ownBlock ∧ some k_ ≠ (v411 : Value).ownBlock ∧ some k_ ≠ (.slice (some ad423) x137_2.length co34 : Value).ownBlock)) (by (with_reducible repeat (first | apply Kd.R_alloc | apply Kd.R_drewN | apply Kd.R_drew)); exact Kd.R_mono HO_5.out (fun _ hk => ⟨⟨hk.1, ⟨hk.2.1, ⟨hk.2.2.1, hk.2.2.2.2⟩⟩⟩, hk.2.2.2.1⟩)) hg (.inl rfl)); replace HO_6 := Aside0.mk (Kd.R_after (v := (.slice (some ⟨go50, 0, none⟩) x17_3.length co51)) (v1 := (.slice (some ⟨go50, 0, none⟩) x17_3.length co51)) (ok := (fun k_ => some k_ ≠ (.slice (some ad427) x5_2.length co12 : Value).ownBlock ∧ some k_ ≠ (v411 : Value).ownBlock ∧ some k_ ≠ (v411 : Value).ownBlock ∧ some k_ ≠ (.slice (some ad423) x137_2.length co34 : Value).ownBlock ∧ some k_ ≠ (.slice (some ad427) x5_2.length co12 : Value).ownBlock)) (by (with_reducible repeat (first | apply Kd.R_alloc | apply Kd.R_drewN | apply Kd.R_drew)); exact Kd.R_mono HO_6.out (fun _ hk => ⟨⟨hk.1, ⟨hk.2.1, ⟨hk.2.2.1, ⟨hk.2.2.2.2.1, hk.2.2.2.2.2⟩⟩⟩⟩, hk.2.2.2.1⟩)) hg (.inl rfl)); replace HO_10 := Aside0.mk (Kd.R_after (v := (.slice (some ⟨go50, 0, none⟩) x17_3.length co51)) (v1 := (.slice (some ⟨go50, 0, none⟩) x17_3.length co51)) (ok := (fun k_ => some k_ ≠ (.slice (some ad427) x5_2.length co12 : Value).ownBlock ∧ some k_ ≠ (v403 : Value).ownBlock ∧ some k_ ≠ (.slice (some ad423) x137_2.length co34 : Value).ownBlock ∧ some k_ ≠ (.slice (some ad427) x5_2.length co12 : Value).ownBlock)) (by (with_reducible repeat (first | apply Kd.R_alloc | apply Kd.R_drewN | apply Kd.R_drew)); exact Kd.R_mono HO_10.out (fun _ hk => ⟨⟨hk.1, ⟨hk.2.1, ⟨hk.2.2.2.1, hk.2.2.2.2⟩⟩⟩, hk.2.2.1⟩)) hg (.inl rfl)); replace HO_16 := Aside0.mk (Kd.R_after (v := (.slice (some ⟨go50, 0, none⟩) x17_3.length co51)) (v1 := (.slice (some ⟨go50, 0, none⟩) x17_3.length co51)) (ok := (fun k_ => some k_ ≠ (.slice (some ad427) x5_2.length co12 : Value).ownBlock ∧ some k_ ≠ (v403 : Value).ownBlock ∧ some k_ ≠ (.slice (some ad423) x137_2.length co34 : Value).ownBlock ∧ some k_ ≠ (.slice (some ad427) x5_2.length co12 : Value).ownBlock)) (by (with_reducible repeat (first | apply Kd.R_alloc | apply Kd.R_drewN | apply Kd.R_drew)); exact Kd.R_mono HO_16.out (fun _ hk => ⟨⟨hk.1, ⟨hk.2.1, ⟨hk.2.2.2.1, hk.2.2.2.2⟩⟩⟩, hk.2.2.1⟩)) hg (.inl rfl)); replace HO_17 := Aside0.mk (hp_); replace HO_137 := Aside0.mk (Kd.R_after (v := (.slice (some ⟨go50, 0, none⟩) x17_3.length co51)) (v1 := (.slice (some ⟨go50, 0, none⟩) x17_3.length co51)) (ok := (fun k_ => some k_ ≠ (.slice (some ad427) x5_2.length co12 : Value).ownBlock ∧ some k_ ≠ (v403 : Value).ownBlock ∧ some k_ ≠ (v411 : Value).ownBlock ∧ some k_ ≠ (v411 : Value).ownBlock ∧ some k_ ≠ (.slice (some ad427) x5_2.length co12 : Value).ownBlock)) (by (with_reducible repeat (first | apply Kd.R_alloc | apply Kd.R_drewN | apply Kd.R_drew)); exact Kd.R_mono HO_137.out (fun _ hk => ⟨⟨hk.1, ⟨hk.2.1, ⟨hk.2.2.1, ⟨hk.2.2.2.1, hk.2.2.2.2.2⟩⟩⟩⟩, hk.2.2.2.2.1⟩)) hg (.inl rfl)); replace HO_149 := Aside0.mk (Kd.R_after (v := (.slice (some ⟨go50, 0, none⟩) x17_3.length co51)) (v1 := (.slice (some ⟨go50, 0, none⟩) x17_3.length co51)) (ok := (fun k_ => some k_ ≠ (v403 : Value).ownBlock ∧ some k_ ≠ (v411 : Value).ownBlock ∧ some k_ ≠ (v411 : Value).ownBlock ∧ some k_ ≠ (.slice (some ad423) x137_2.length co34 : Value).ownBlock)) (by (with_reducible repeat (first | apply Kd.R_alloc | apply Kd.R_drewN | apply Kd.R_drew)); exact Kd.R_mono HO_149.out (fun _ hk => ⟨⟨hk.1, ⟨hk.2.1, ⟨hk.2.2.1, hk.2.2.2.2⟩⟩⟩, hk.2.2.2.1⟩)) hg (.inl rfl)); replace HB := Aside0.mk ((by rw [hw]; exact below_set (HB.out) GB50.out : Below w.heap.size w w53)); clear hg hw hp_))
            repeat (go_quiet (first | ((with_reducible refine gate_store (t := 3) (p := 164) rfl ?_); (try (rw [drewN_self wr]; generalize hq_ : World.drewN wr _ = wr; replace HO_5 := Aside0.mk (Kd.R_at hq_ HO_5.out); replace HO_6 := Aside0.mk (Kd.R_at hq_ HO_6.out); replace HO_10 := Aside0.mk (Kd.R_at hq_ HO_10.out); replace HO_16 := Aside0.mk (Kd.R_at hq_ HO_16.out); replace HO_17 := Aside0.mk (Kd.R_at hq_ HO_17.out); replace HO_137 := Aside0.mk (Kd.R_at hq_ HO_137.out); replace HO_149 := Aside0.mk (Kd.R_at hq_ HO_149.out); replace HB := Aside0.mk (below_at hq_ HB.out); clear hq_; (try (have HP52 := Kd.R_putg HO_17.out ((ji47) : Int) (wrap64 ((rd x17_3 (ji47)) + (rd x5_2 x151_3))))))); refine store_event (t := 3) (p := 164) (v := ?vo_w53) (w1 := (wr.setCell ⟨go50, ((ji47) : Int).toNat, none⟩ (.int .i64 (wrap64 ((rd x17_3 (ji47)) + (rd x5_2 x151_3)))))) ?hg ?ho ?hn ?hr ?_; (case ho => rfl); (case hg => rfl); (case hn => rfl); (case hr => first | (go_simp; done) | (go_simp; rfl)); intro w53 hw; have hg : wr.grownBy w53 (some go50) := (by rw [hw]; exact HP52.2); have hp_ : Kd.R (Kd.int .i64) 3 w53 w.heap.size (fun k_ => some k_ ≠ (.slice (some ad427) x5_2.length co12 : Value).ownBlock ∧ some k_ ≠ (v403 : Value).ownBlock ∧ some k_ ≠ (v411 : Value).ownBlock ∧ some k_ ≠ (v411 : Value).ownBlock ∧ some k_ ≠ (.slice (some ad423) x137_2.length co34 : Value).ownBlock ∧ some k_ ≠ (.slice (some ad427) x5_2.length co12 : Value).ownBlock) (.slice (some ⟨go50, 0, none⟩) x17_3.length co51) y429 := (by rw [hw, Ny429.out]; exact HP52.1); clear HP52; replace HO_5 := Aside0.mk (Kd.R_after (v := (.slice (some ⟨go50, 0, none⟩) x17_3.length co51)) (v1 := (.slice (some ⟨go50, 0, none⟩) x17_3.length co51)) (ok := (fun k_ => some k_ ≠ (v403 : Value).ownBlock ∧ some k_ ≠ (v411 : Value).ownBlock ∧ some k_ ≠ (v411 : Value).ownBlock ∧ some k_ ≠ (.slice (some ad423) x137_2.length co34 : Value).ownBlock)) (by (with_reducible repeat (first | apply Kd.R_alloc | apply Kd.R_drewN | apply Kd.R_drew)); exact Kd.R_mono HO_5.out (fun _ hk => ⟨⟨hk.1, ⟨hk.2.1, ⟨hk.2.2.1, hk.2.2.2.2⟩⟩⟩, hk.2.2.2.1⟩)) hg (.inl rfl)); replace HO_6 := Aside0.mk (Kd.R_after (v := (.slice (some ⟨go50, 0, none⟩) x17_3.length co51)) (v1 := (.slice (some ⟨go50, 0, none⟩) x17_3.length co51)) (ok := (fun k_ => some k_ ≠ (.slice (some ad427) x5_2.length co12 : Value).ownBlock ∧ some k_ ≠ (v411 : Value).ownBlock ∧ some k_ ≠ (v411 : Value).ownBlock ∧ some k_ ≠ (.slice (some ad423) x137_2.length co34 : Value).ownBlock ∧ some k_ ≠ (.slice (some ad427) x5_2.length co12 : Value).ownBlock)) (by (with_reducible repeat (first | apply Kd.R_alloc | apply Kd.R_drewN | apply Kd.R_drew)); exact Kd.R_mono HO_6.out (fun _ hk => ⟨⟨hk.1, ⟨hk.2.1, ⟨hk.2.2.1, ⟨hk.2.2.2.2.1, hk.2.2.2.2.2⟩⟩⟩⟩, hk.2.2.2.1⟩)) hg (.inl rfl)); replace HO_10 := Aside0.mk (Kd.R_after (v := (.slice (some ⟨go50, 0, none⟩) x17_3.length co51)) (v1 := (.slice (some ⟨go50, 0, none⟩) x17_3.length co51)) (ok := (fun k_ => some k_ ≠ (.slice (some ad427) x5_2.length co12 : Value).ownBlock ∧ some k_ ≠ (v403 : Value).ownBlock ∧ some k_ ≠ (.slice (some ad423) x137_2.length co34 : Value).ownBlock ∧ some k_ ≠ (.slice (some ad427) x5_2.length co12 : Value).ownBlock)) (by (with_reducible repeat (first | apply Kd.R_alloc | apply Kd.R_drewN | apply Kd.R_drew)); exact Kd.R_mono HO_10.out (fun _ hk => ⟨⟨hk.1, ⟨hk.2.1, ⟨hk.2.2.2.1, hk.2.2.2.2⟩⟩⟩, hk.2.2.1⟩)) hg (.inl rfl)); replace HO_16 := Aside0.mk (Kd.R_after (v := (.slice (some ⟨go50, 0, none⟩) x17_3.length co51)) (v1 := (.slice (some ⟨go50, 0, none⟩) x17_3.length co51)) (ok := (fun k_ => some k_ ≠ (.slice (some ad427) x5_2.length co12 : Value).ownBlock ∧ some k_ ≠ (v403 : Value).ownBlock ∧ some k_ ≠ (.slice (some ad423) x137_2.length co34 : Value).ownBlock ∧ some k_ ≠ (.slice (some ad427) x5_2.length co12 : Value).ownBlock)) (by (with_reducible repeat (first | apply Kd.R_alloc | apply Kd.R_drewN | apply Kd.R_drew)); exact Kd.R_mono HO_16.out (fun _ hk => ⟨⟨hk.1, ⟨hk.2.1, ⟨hk.2.2.2.1, hk.2.2.2.2⟩⟩⟩, hk.2.2.1⟩)) hg (.inl rfl)); replace HO_17 := Aside0.mk (hp_); replace HO_137 := Aside0.mk (Kd.R_after (v := (.slice (some ⟨go50, 0, none⟩) x17_3.length co51)) (v1 := (.slice (some ⟨go50, 0, none⟩) x17_3.length co51)) (ok := (fun k_ => some k_ ≠ (.slice (some ad427) x5_2.length co12 : Value).ownBlock ∧ some k_ ≠ (v403 : Value).ownBlock ∧ some k_ ≠ (v411 : Value).ownBlock ∧ some k_ ≠ (v411 : Value).ownBlock ∧ some k_ ≠ (.slice (some ad427) x5_2.length co12 : Value).ownBlock)) (by (with_reducible repeat (first | apply Kd.R_alloc | apply Kd.R_drewN | apply Kd.R_drew)); exact Kd.R_mono HO_137.out (fun _ hk => ⟨⟨hk.1, ⟨hk.2.1, ⟨hk.2.2.1, ⟨hk.2.2.2.1, hk.2.2.2.2.2⟩⟩⟩⟩, hk.2.2.2.2.1⟩)) hg (.inl rfl)); replace HO_149 := Aside0.mk (Kd.R_after (v := (.slice (some ⟨go50, 0, none⟩) x17_3.length co51)) (v1 := (.slice (some ⟨go50, 0, none⟩) x17_3.length co51)) (ok := (fun k_ => some k_ ≠ (v403 : Value).ownBlock ∧ some k_ ≠ (v411 : Value).ownBlock ∧ some k_ ≠ (v411 : Value).ownBlock ∧ some k_ ≠ (.slice (some ad423) x137_2.length co34 : Value).ownBlock)) (by (with_reducible repeat (first | apply Kd.R_alloc | apply Kd.R_drewN | apply Kd.R_drew)); exact Kd.R_mono HO_149.out (fun _ hk => ⟨⟨hk.1, ⟨hk.2.1, ⟨hk.2.2.1, hk.2.2.2.2⟩⟩⟩, hk.2.2.2.1⟩)) hg (.inl rfl)); replace HB := Aside0.mk ((by rw [hw]; exact below_set (HB.out) GB50.out : Below w.heap.size w w53)); clear hg hw hp_)); try go_wp2_with (first | ((with_reducible refine gate_store (t := 3) (p := 164) rfl ?_); (try (rw [drewN_self wr]; generalize hq_ : World.drewN wr _ = wr; replace HO_5 := Aside0.mk (Kd.R_at hq_ HO_5.out); replace HO_6 := Aside0.mk (Kd.R_at hq_ HO_6.out); replace HO_10 := Aside0.mk (Kd.R_at hq_ HO_10.out); replace HO_16 := Aside0.mk (Kd.R_at hq_ HO_16.out); replace HO_17 := Aside0.mk (Kd.R_at hq_ HO_17.out); replace HO_137 := Aside0.mk (Kd.R_at hq_ HO_137.out); replace HO_149 := Aside0.mk (Kd.R_at hq_ HO_149.out); replace HB := Aside0.mk (below_at hq_ HB.out); clear hq_; (try (have HP52 := Kd.R_putg HO_17.out ((ji47) : Int) (wrap64 ((rd x17_3 (ji47)) + (rd x5_2 x151_3))))))); refine store_event (t := 3) (p := 164) (v := ?vo_w53) (w1 := (wr.setCell ⟨go50, ((ji47) : Int).toNat, none⟩ (.int .i64 (wrap64 ((rd x17_3 (ji47)) + (rd x5_2 x151_3)))))) ?hg ?ho ?hn ?hr ?_; (case ho => rfl); (case hg => rfl); (case hn => rfl); (case hr => first | (go_simp; done) | (go_simp; rfl)); intro w53 hw; have hg : wr.grownBy w53 (some go50) := (by rw [hw]; exact HP52.2); have hp_ : Kd.R (Kd.int .i64) 3 w53 w.heap.size (fun k_ => some k_ ≠ (.slice (some ad427) x5_2.length co12 : Value).ownBlock ∧ some k_ ≠ (v403 : Value).ownBlock ∧ some k_ ≠ (v411 : Value).ownBlock ∧ some k_ ≠ (v411 : Value).ownBlock ∧ some k_ ≠ (.slice (some ad423) x137_2.length co34 : Value).ownBlock ∧ some k_ ≠ (.slice (some ad427) x5_2.length co12 : Value).ownBlock) (.slice (some ⟨go50, 0, none⟩) x17_3.length co51) y429 := (by rw [hw, Ny429.out]; exact HP52.1); clear HP52; replace HO_5 := Aside0.mk (Kd.R_after (v := (.slice (some ⟨go50, 0, none⟩) x17_3.length co51)) (v1 := (.slice (some ⟨go50, 0, none⟩) x17_3.length co51)) (ok := (fun k_ => some k_ ≠ (v403 : Value).ownBlock ∧ some k_ ≠ (v411 : Value).ownBlock ∧ some k_ ≠ (v411 : Value).ownBlock ∧ some k_ ≠ (.slice (some ad423) x137_2.length co34 : Value).ownBlock)) (by (with_reducible repeat (first | apply Kd.R_alloc | apply Kd.R_drewN | apply Kd.R_drew)); exact Kd.R_mono HO_5.out (fun _ hk => ⟨⟨hk.1, ⟨hk.2.1, ⟨hk.2.2.1, hk.2.2.2.2⟩⟩⟩, hk.2.2.2.1⟩)) hg (.inl rfl)); replace HO_6 := Aside0.mk (Kd.R_after (v := (.slice (some ⟨go50, 0, none⟩) x17_3.length co51)) (v1 := (.slice (some ⟨go50, 0, none⟩) x17_3.length co51)) (ok := (fun k_ => some k_ ≠ (.slice (some ad427) x5_2.length co12 : Value).ownBlock ∧ some k_ ≠ (v411 : Value).ownBlock ∧ some k_ ≠ (v411 : Value).ownBlock ∧ some k_ ≠ (.slice (some ad423) x137_2.length co34 : Value).ownBlock ∧ some k_ ≠ (.slice (some ad427) x5_2.length co12 : Value).ownBlock)) (by (with_reducible repeat (first | apply Kd.R_alloc | apply Kd.R_drewN | apply Kd.R_drew)); exact Kd.R_mono HO_6.out (fun _ hk => ⟨⟨hk.1, ⟨hk.2.1, ⟨hk.2.2.1, ⟨hk.2.2.2.2.1, hk.2.2.2.2.2⟩⟩⟩⟩, hk.2.2.2.1⟩)) hg (.inl rfl)); replace HO_10 := Aside0.mk (Kd.R_after (v := (.slice (some ⟨go50, 0, none⟩) x17_3.length co51)) (v1 := (.slice (some ⟨go50, 0, none⟩) x17_3.length co51)) (ok := (fun k_ => some k_ ≠ (.slice (some ad427) x5_2.length co12 : Value).ownBlock ∧ some k_ ≠ (v403 : Value).ownBlock ∧ some k_ ≠ (.slice (some ad423) x137_2.length co34 : Value).ownBlock ∧ some k_ ≠ (.slice (some ad427) x5_2.length co12 : Value).ownBlock)) (by (with_reducible repeat (first | apply Kd.R_alloc | apply Kd.R_drewN | apply Kd.R_drew)); exact Kd.R_mono HO_10.out (fun _ hk => ⟨⟨hk.1, ⟨hk.2.1, ⟨hk.2.2.2.1, hk.2.2.2.2⟩⟩⟩, hk.2.2.1⟩)) hg (.inl rfl)); replace HO_16 := Aside0.mk (Kd.R_after (v := (.slice (some ⟨go50, 0, none⟩) x17_3.length co51)) (v1 := (.slice (some ⟨go50, 0, none⟩) x17_3.length co51)) (ok := (fun k_ => some k_ ≠ (.slice (some ad427) x5_2.length co12 : Value).ownBlock ∧ some k_ ≠ (v403 : Value).ownBlock ∧ some k_ ≠ (.slice (some ad423) x137_2.length co34 : Value).ownBlock ∧ some k_ ≠ (.slice (some ad427) x5_2.length co12 : Value).ownBlock)) (by (with_reducible repeat (first | apply Kd.R_alloc | apply Kd.R_drewN | apply Kd.R_drew)); exact Kd.R_mono HO_16.out (fun _ hk => ⟨⟨hk.1, ⟨hk.2.1, ⟨hk.2.2.2.1, hk.2.2.2.2⟩⟩⟩, hk.2.2.1⟩)) hg (.inl rfl)); replace HO_17 := Aside0.mk (hp_); replace HO_137 := Aside0.mk (Kd.R_after (v := (.slice (some ⟨go50, 0, none⟩) x17_3.length co51)) (v1 := (.slice (some ⟨go50, 0, none⟩) x17_3.length co51)) (ok := (fun k_ => some k_ ≠ (.slice (some ad427) x5_2.length co12 : Value).ownBlock ∧ some k_ ≠ (v403 : Value).ownBlock ∧ some k_ ≠ (v411 : Value).ownBlock ∧ some k_ ≠ (v411 : Value).ownBlock ∧ some k_ ≠ (.slice (some ad427) x5_2.length co12 : Value).ownBlock)) (by (with_reducible repeat (first | apply Kd.R_alloc | apply Kd.R_drewN | apply Kd.R_drew)); exact Kd.R_mono HO_137.out (fun _ hk => ⟨⟨hk.1, ⟨hk.2.1, ⟨hk.2.2.1, ⟨hk.2.2.2.1, hk.2.2.2.2.2⟩⟩⟩⟩, hk.2.2.2.2.1⟩)) hg (.inl rfl)); replace HO_149 := Aside0.mk (Kd.R_after (v := (.slice (some ⟨go50, 0, none⟩) x17_3.length co51)) (v1 := (.slice (some ⟨go50, 0, none⟩) x17_3.length co51)) (ok := (fun k_ => some k_ ≠ (v403 : Value).ownBlock ∧ some k_ ≠ (v411 : Value).ownBlock ∧ some k_ ≠ (v411 : Value).ownBlock ∧ some k_ ≠ (.slice (some ad423) x137_2.length co34 : Value).ownBlock)) (by (with_reducible repeat (first | apply Kd.R_alloc | apply Kd.R_drewN | apply Kd.R_drew)); exact Kd.R_mono HO_149.out (fun _ hk => ⟨⟨hk.1, ⟨hk.2.1, ⟨hk.2.2.1, hk.2.2.2.2⟩⟩⟩, hk.2.2.2.1⟩)) hg (.inl rfl)); replace HB := Aside0.mk ((by rw [hw]; exact below_set (HB.out) GB50.out : Below w.heap.size w w53)); clear hg hw hp_)))
            go_roundg k3
            case measure => have := HJ9.out; have := HK2.out; have := HK3.out; omega
            case rel => exact ⟨(y429), (wrap64 (x151_3 + 1)), (by first | rfl | (simp; done) | (simp [*]; done)), H', ⟨by have := HJ9.out; have := HK2.out; have := HK3.out; omega⟩, ⟨by (try simp only [hl5_2]); (try simp only [hl137_2]); (with_reducible repeat (first | apply Kd.R_alloc | apply Kd.R_drewN | apply Kd.R_drew)); exact Kd.R_mono HO_5.out (fun _ hk => ⟨hk.1.1, ⟨hk.1.2.1, ⟨hk.1.2.2.1, ⟨hk.2, hk.1.2.2.2⟩⟩⟩⟩)⟩, ⟨by (try simp only [hl5_2]); (try simp only [hl137_2]); (with_reducible repeat (first | apply Kd.R_alloc | apply Kd.R_drewN | apply Kd.R_drew)); exact Kd.R_mono HO_6.out (fun _ hk => ⟨hk.1.1, ⟨hk.1.2.1, ⟨hk.1.2.2.1, ⟨hk.2, ⟨hk.1.2.2.2.1, hk.1.2.2.2.2⟩⟩⟩⟩⟩)⟩, ⟨by (try simp only [hl5_2]); (try simp only [hl137_2]); (with_reducible repeat (first | apply Kd.R_alloc | apply Kd.R_drewN | apply Kd.R_drew)); exact Kd.R_mono HO_10.out (fun _ hk => ⟨hk.1.1, ⟨hk.1.2.1, ⟨hk.2, ⟨hk.1.2.2.1, hk.1.2.2.2⟩⟩⟩⟩)⟩, ⟨by (try simp only [hl5_2]); (try simp only [hl137_2]); (with_reducible repeat (first | apply Kd.R_alloc | apply Kd.R_drewN | apply Kd.R_drew)); exact Kd.R_mono HO_16.out (fun _ hk => ⟨hk.1.1, ⟨hk.1.2.1, ⟨hk.2, ⟨hk.1.2.2.1, hk.1.2.2.2⟩⟩⟩⟩)⟩, ⟨by (try simp only [hl5_2]); (try simp only [hl137_2]); (with_reducible repeat (first | apply Kd.R_alloc | apply Kd.R_drewN | apply Kd.R_drew)); exact HO_17.out⟩, ⟨by (try simp only [hl5_2]); (try simp only [hl137_2]); (with_reducible repeat (first | apply Kd.R_alloc | apply Kd.R_drewN | apply Kd.R_drew)); exact Kd.R_mono HO_137.out (fun _ hk => ⟨hk.1.1, ⟨hk.1.2.1, ⟨hk.1.2.2.1, ⟨hk.1.2.2.2.1, ⟨hk.2, hk.1.2.2.2.2⟩⟩⟩⟩⟩)⟩, ⟨by (try simp only [hl5_2]); (try simp only [hl137_2]); (with_reducible repeat (first | apply Kd.R_alloc | apply Kd.R_drewN | apply Kd.R_drew)); exact Kd.R_mono HO_149.out (fun _ hk => ⟨hk.1.1, ⟨hk.1.2.1, ⟨hk.1.2.2.1, ⟨hk.2, hk.1.2.2.2⟩⟩⟩⟩)⟩, ⟨xB HB.out⟩⟩
        rw [if_neg c43] at H
        have c43b0 : decide (x151_3 < (x5_2.length : Int)) = false := decide_eq_false c43
        (try (have c43b5 := c43b0; rw [hl5_2] at c43b5))
        (try (have c43b6 := c43b0; rw [hl137_2] at c43b6))
        clear c43
        have H' := Aside0.mk H
        clear H
        obtain ⟨Ao54, co54, eo54⟩ := Kd.R_slice HO_16.out
        subst eo54
        go_wp2
        repeat (go_quiet (fail); try go_wp2)
        go_loopg [20, 21, 168] k3 (fun kq v20 v21 v168 w' => ∃ (x20_4 : Int) (x21_4 : Int) (x168_4 : Int), v20 = .int .i64 x20_4 ∧ v21 = .int .i64 x21_4 ∧ v168 = .int .i64 x168_4 ∧ Aside0 (laws_FnTonesFound.l2 kq l1 x5_2 x6_2 x10_2 (rd x137_2 x139_2) x10_2 x17_3 x20_4 x21_4 x137_2 (y420.length : Int) x139_2 x10_2 (x10_2.length : Int) x168_4 = some r) ∧ Aside0 (kq ≤ k3) ∧ Aside0 (Kd.R (Kd.int .i64) 3 w' w.heap.size (fun k_ => some k_ ≠ (v403 : Value).ownBlock ∧ some k_ ≠ ((.slice Ao54 x10_2.length co54) : Value).ownBlock ∧ some k_ ≠ ((.slice Ao54 x10_2.length co54) : Value).ownBlock ∧ some k_ ≠ (v425 : Value).ownBlock ∧ some k_ ≠ ((.slice (some ad423) x137_2.length co34) : Value).ownBlock ∧ some k_ ≠ ((.slice Ao54 x10_2.length co54) : Value).ownBlock) (.slice Ao12 x5_2.length co12) x5_2) ∧ Aside0 (Kd.R (Kd.int .i64) 3 w' w.heap.size (fun k_ => some k_ ≠ ((.slice Ao12 x5_2.length co12) : Value).ownBlock ∧ some k_ ≠ ((.slice Ao54 x10_2.length co54) : Value).ownBlock ∧ some k_ ≠ ((.slice Ao54 x10_2.length co54) : Value).ownBlock ∧ some k_ ≠ (v425 : Value).ownBlock ∧ some k_ ≠ ((.slice (some ad423) x137_2.length co34) : Value).ownBlock ∧ some k_ ≠ ((.slice Ao54 x10_2.length co54) : Value).ownBlock) v403 x6_2) ∧ Aside0 (Kd.R (Kd.int .i64) 3 w' w.heap.size (fun k_ => some k_ ≠ ((.slice Ao12 x5_2.length co12) : Value).ownBlock ∧ some k_ ≠ (v403 : Value).ownBlock ∧ some k_ ≠ (v425 : Value).ownBlock ∧ some k_ ≠ ((.slice (some ad423) x137_2.length co34) : Value).ownBlock) (.slice Ao54 x10_2.length co54) x10_2) ∧ Aside0 (Kd.R (Kd.int .i64) 3 w' w.heap.size (fun k_ => some k_ ≠ ((.slice Ao12 x5_2.length co12) : Value).ownBlock ∧ some k_ ≠ (v403 : Value).ownBlock ∧ some k_ ≠ (v425 : Value).ownBlock ∧ some k_ ≠ ((.slice (some ad423) x137_2.length co34) : Value).ownBlock) (.slice Ao54 x10_2.length co54) x10_2) ∧ Aside0 (Kd.R (Kd.int .i64) 3 w' w.heap.size (fun k_ => some k_ ≠ ((.slice Ao12 x5_2.length co12) : Value).ownBlock ∧ some k_ ≠ (v403 : Value).ownBlock ∧ some k_ ≠ ((.slice Ao54 x10_2.length co54) : Value).ownBlock ∧ some k_ ≠ ((.slice Ao54 x10_2.length co54) : Value).ownBlock ∧ some k_ ≠ ((.slice (some ad423) x137_2.length co34) : Value).ownBlock ∧ some k_ ≠ ((.slice Ao54 x10_2.length co54) : Value).ownBlock) v425 x17_3) ∧ Aside0 (Kd.R (Kd.int .i64) 3 w' w.heap.size (fun k_ => some k_ ≠ ((.slice Ao12 x5_2.length co12) : Value).ownBlock ∧ some k_ ≠ (v403 : Value).ownBlock ∧ some k_ ≠ ((.slice Ao54 x10_2.length co54) : Value).ownBlock ∧ some k_ ≠ ((.slice Ao54 x10_2.length co54) : Value).ownBlock ∧ some k_ ≠ (v425 : Value).ownBlock ∧ some k_ ≠ ((.slice Ao54 x10_2.length co54) : Value).ownBlock) (.slice (some ad423) x137_2.length co34) x137_2) ∧ Aside0 (Kd.R (Kd.int .i64) 3 w' w.heap.size (fun k_ => some k_ ≠ ((.slice Ao12 x5_2.length co12) : Value).ownBlock ∧ some k_ ≠ (v403 : Value).ownBlock ∧ some k_ ≠ (v425 : Value).ownBlock ∧ some k_ ≠ ((.slice (some ad423) x137_2.length co34) : Value).ownBlock) (.slice Ao54 x10_2.length co54) x10_2) ∧ Aside0 (Below w.heap.size w w'))
        case atStart => exact ⟨(0), (0), (0), (by first | rfl | (simp; done) | (simp [*]; done)), (by first | rfl | (simp; done) | (simp [*]; done)), (by first | rfl | (simp; done) | (simp [*]; done)), H', ⟨Nat.le_refl _⟩, ⟨by (try simp only [hl5_2]); (try simp only [hl137_2]); (with_reducible repeat (first | apply Kd.R_alloc | apply Kd.R_drewN | apply Kd.R_drew)); exact Kd.R_mono HO_5.out (fun _ hk => ⟨hk.1, ⟨hk.2.1, ⟨hk.2.2.1, ⟨hk.2.2.2.1, ⟨hk.2.2.2.2, hk.2.2.1⟩⟩⟩⟩⟩)⟩, ⟨by (try simp only [hl5_2]); (try simp only [hl137_2]); (with_reducible repeat (first | apply Kd.R_alloc | apply Kd.R_drewN | apply Kd.R_drew)); exact Kd.R_mono HO_6.out (fun _ hk => ⟨hk.1, ⟨hk.2.1, ⟨hk.2.2.1, ⟨hk.2.2.2.1, ⟨hk.2.2.2.2.1, hk.2.2.1⟩⟩⟩⟩⟩)⟩, ⟨by (try simp only [hl5_2]); (try simp only [hl137_2]); (with_reducible repeat (first | apply Kd.R_alloc | apply Kd.R_drewN | apply Kd.R_drew)); exact Kd.R_mono HO_10.out (fun _ hk => ⟨hk.1, ⟨hk.2.1, ⟨hk.2.2.1, hk.2.2.2.1⟩⟩⟩)⟩, ⟨by (try simp only [hl5_2]); (try simp only [hl137_2]); (with_reducible repeat (first | apply Kd.R_alloc | apply Kd.R_drewN | apply Kd.R_drew)); exact Kd.R_mono HO_16.out (fun _ hk => ⟨hk.1, ⟨hk.2.1, ⟨hk.2.2.1, hk.2.2.2.1⟩⟩⟩)⟩, ⟨by (try simp only [hl5_2]); (try simp only [hl137_2]); (with_reducible repeat (first | apply Kd.R_alloc | apply Kd.R_drewN | apply Kd.R_drew)); exact Kd.R_mono HO_17.out (fun _ hk => ⟨hk.1, ⟨hk.2.1, ⟨hk.2.2.1, ⟨hk.2.2.2.1, ⟨hk.2.2.2.2.1, hk.2.2.2.1⟩⟩⟩⟩⟩)⟩, ⟨by (try simp only [hl5_2]); (try simp only [hl137_2]); (with_reducible repeat (first | apply Kd.R_alloc | apply Kd.R_drewN | apply Kd.R_drew)); exact Kd.R_mono HO_137.out (fun _ hk => ⟨hk.1, ⟨hk.2.1, ⟨hk.2.2.1, ⟨hk.2.2.2.1, ⟨hk.2.2.2.2.1, hk.2.2.2.1⟩⟩⟩⟩⟩)⟩, ⟨by (try simp only [hl5_2]); (try simp only [hl137_2]); (with_reducible repeat (first | apply Kd.R_alloc | apply Kd.R_drewN | apply Kd.R_drew)); exact Kd.R_mono HO_16.out (fun _ hk => ⟨hk.1, ⟨hk.2.1, ⟨hk.2.2.1, hk.2.2.2.1⟩⟩⟩)⟩, ⟨xB HB.out⟩⟩
        case round =>
         clear H'
         try clear c43b0
         obtain ⟨x20_4, x21_4, x168_4, rfl, rfl, rfl, HA, HK4, HO_5, HO_6, HO_10, HO_16, HO_17, HO_137, HO_166, HB⟩ := hrel
         cases gk with
         | zero => exact absurd HA.out (by simp [laws_FnTonesFound.l2])
         | succ k4 =>
          have H := HA.out
          clear HA
          simp only [laws_FnTonesFound.l2] at H
          by_cases c55 : x168_4 < (x10_2.length : Int)
          ·as_aux_lemma =>
             rw [if_pos c55] at H
             have c55b0 : decide (x168_4 < (x10_2.length : Int)) = true := decide_eq_true c55
             (try (have c55b5 := c55b0; rw [hl5_2] at c55b5))
             (try (have c55b6 := c55b0; rw [hl137_2] at c55b6))
             clear c55
             by_cases c56 : 0 ≤ x168_4
             rotate_left
             ·rw [if_neg c56] at H
              exact absurd H (by simp)
             rw [if_pos c56] at H
             have c56b0 : decide (0 ≤ x168_4) = true := decide_eq_true c56
             clear c56
             by_cases c57 : x168_4 < (x10_2.length : Int)
             rotate_left
             ·rw [if_neg c57] at H
              exact absurd H (by simp)
             rw [if_pos c57] at H
             have c57b0 : decide (x168_4 < (x10_2.length : Int)) = true := decide_eq_true c57
             (try (have c57b5 := c57b0; rw [hl5_2] at c57b5))
             (try (have c57b6 := c57b0; rw [hl137_2] at c57b6))
             clear c57
             by_cases c58 : x168_4 < (x17_3.length : Int)
             rotate_left
             ·rw [if_neg c58] at H
              exact absurd H (by simp)
             rw [if_pos c58] at H
             have c58b0 : decide (x168_4 < (x17_3.length : Int)) = true := decide_eq_true c58
             (try (have c58b5 := c58b0; rw [hl5_2] at c58b5))
             (try (have c58b6 := c58b0; rw [hl137_2] at c58b6))
             clear c58
             by_cases c59 : (rd x10_2 x168_4) < 0
             ·rw [if_pos c59] at H
              have c59b0 : decide ((rd x10_2 x168_4) < 0) = true := decide_eq_true c59
              clear c59
              exact absurd ((Option.some.inj H).trans HRT.out) (by decide)
             rw [if_neg c59] at H
             have c59b0 : decide ((rd x10_2 x168_4) < 0) = false := decide_eq_false c59
             clear c59
             by_cases c60 : (rd x137_2 x139_2) = 0
             ·rw [if_pos c60] at H
              exact absurd H (by simp)
             as_aux_lemma =>
              rw [if_neg c60] at H
              have c60b0 : ((rd x137_2 x139_2) == 0) = false := beq_eq_false_iff_ne.mpr c60
              have c60b1 : ((rd x137_2 x139_2) != 0) = true := bne_iff_ne.mpr c60
              obtain ⟨ji61, hji61⟩ : ∃ j_ : Int, (Int.tmod (wrap64 ((rd x137_2 x139_2) - x168_4)) (rd x137_2 x139_2)) = j_ := ⟨_, rfl⟩
              replace H : (if 0 ≤ (ji61) then (if (ji61) < (x10_2.length : Int) then (if (rd x10_2 x168_4) = (rd x10_2 (ji61)) then (laws_FnTonesFound.l2 k4 l1 x5_2 x6_2 x10_2 (rd x137_2 x139_2) x10_2 x17_3 (wrap64 (x20_4 + (rd x10_2 x168_4))) (wrap64 (x21_4 + (wrap64 ((rd x17_3 x168_4) * (rd x17_3 x168_4))))) x137_2 (y420.length : Int) x139_2 x10_2 (x10_2.length : Int) (wrap64 (x168_4 + 1))) else (some false)) else (none)) else (none)) = some r := by first | (rw [hji61] at H; exact H) | (simp only [hji61] at H ⊢; exact H)
              by_cases c62 : 0 ≤ (ji61)
              rotate_left
              ·rw [if_neg c62] at H
               exact absurd H (by simp)
              rw [if_pos c62] at H
              have c62b0 : decide (0 ≤ (ji61)) = true := decide_eq_true c62
              clear c62
              by_cases c63 : (ji61) < (x10_2.length : Int)
              rotate_left
              ·rw [if_neg c63] at H
               exact absurd H (by simp)
              rw [if_pos c63] at H
              have c63b0 : decide ((ji61) < (x10_2.length : Int)) = true := decide_eq_true c63
              (try (have c63b5 := c63b0; rw [hl5_2] at c63b5))
              (try (have c63b6 := c63b0; rw [hl137_2] at c63b6))
              clear c63
              by_cases c64 : (rd x10_2 x168_4) = (rd x10_2 (ji61))
              rotate_left
              ·rw [if_neg c64] at H
               have c64b0 : ((rd x10_2 x168_4) == (rd x10_2 (ji61))) = false := beq_eq_false_iff_ne.mpr c64
               have c64b1 : ((rd x10_2 x168_4) != (rd x10_2 (ji61))) = true := bne_iff_ne.mpr c64
               exact absurd ((Option.some.inj H).trans HRT.out) (by decide)
              rw [if_pos c64] at H
              have c64b0 : ((rd x10_2 x168_4) == (rd x10_2 (ji61))) = true := beq_iff_eq.mpr c64
              have c64b1 : ((rd x10_2 x168_4) != (rd x10_2 (ji61))) = false := bne_eq_false_iff_eq.mpr c64
              clear c64
              have H' := Aside0.mk H
              clear H
              have p430 : 0 ≤ (x168_4 : Int) := of_decide_eq_true (by first | (with_reducible assumption) | assumption)
              have q430 : x168_4 < (x10_2.length : Int) := of_decide_eq_true (by first | (with_reducible assumption) | assumption)
              obtain ⟨ad430, e430, hx430_0⟩ := Kd.at_int (Kd.R_reads' HO_166.out).2.2 x168_4 p430 q430
              cases e430
              replace p430 := eq_true p430
              replace q430 := eq_true q430
              obtain ⟨Ao65, co65, eo65⟩ := Kd.R_slice HO_17.out
              subst eo65
              have p431 : 0 ≤ (x168_4 : Int) := of_decide_eq_true (by first | (with_reducible assumption) | assumption)
              have q431 : x168_4 < (x17_3.length : Int) := of_decide_eq_true (by first | (with_reducible assumption) | assumption)
              obtain ⟨ad431, e431, hx431_0⟩ := Kd.at_int (Kd.R_reads' HO_17.out).2.2 x168_4 p431 q431
              cases e431
              replace p431 := eq_true p431
              replace q431 := eq_true q431
              have p432 : 0 ≤ (x168_4 : Int) := of_decide_eq_true (by first | (with_reducible assumption) | assumption)
              have q432 : x168_4 < (x17_3.length : Int) := of_decide_eq_true (by first | (with_reducible assumption) | assumption)
              obtain ⟨ad432, e432, hx432_0⟩ := Kd.at_int (Kd.R_reads' HO_17.out).2.2 x168_4 p432 q432
              obtain rfl : ad431 = ad432 := (by injection e432)
              replace p432 := eq_true p432
              replace q432 := eq_true q432
              have p433 : 0 ≤ ((ji61) : Int) := of_decide_eq_true (by first | (with_reducible assumption) | assumption | (rw [← hji61]; first | (with_reducible assumption) | assumption))
              have q433 : (ji61) < (x10_2.length : Int) := of_decide_eq_true (by first | (with_reducible assumption) | assumption | (rw [← hji61]; first | (with_reducible assumption) | assumption))
              obtain ⟨ad433, e433, hx433_0⟩ := Kd.at_int (Kd.R_reads' HO_16.out).2.2 (ji61) p433 q433
              obtain rfl : ad430 = ad433 := (by injection e433)
              replace p433 := eq_true p433
              replace q433 := eq_true q433
              go_wp2
              repeat (go_quiet (fail); try go_wp2)
              go_roundg k4
              case measure => have := HJ9.out; have := HK2.out; have := HK3.out; have := HK4.out; omega
              case rel => exact ⟨(wrap64 (x20_4 + (rd x10_2 x168_4))), (wrap64 (x21_4 + (wrap64 ((rd x17_3 x168_4) * (rd x17_3 x168_4))))), (wrap64 (x168_4 + 1)), (by first | rfl | (simp; done) | (simp [*]; done)), (by first | rfl | (simp; done) | (simp [*]; done)), (by first | rfl | (simp; done) | (simp [*]; done)), H', ⟨by have := HJ9.out; have := HK2.out; have := HK3.out; have := HK4.out; omega⟩, ⟨by (try simp only [hl5_2]); (try simp only [hl137_2]); (with_reducible repeat (first | apply Kd.R_alloc | apply Kd.R_drewN | apply Kd.R_drew)); exact HO_5.out⟩, ⟨by (try simp only [hl5_2]); (try simp only [hl137_2]); (with_reducible repeat (first | apply Kd.R_alloc | apply Kd.R_drewN | apply Kd.R_drew)); exact HO_6.out⟩, ⟨by (try simp only [hl5_2]); (try simp only [hl137_2]); (with_reducible repeat (first | apply Kd.R_alloc | apply Kd.R_drewN | apply Kd.R_drew)); exact HO_10.out⟩, ⟨by (try simp only [hl5_2]); (try simp only [hl137_2]); (with_reducible repeat (first | apply Kd.R_alloc | apply Kd.R_drewN | apply Kd.R_drew)); exact HO_16.out⟩, ⟨by (try simp only [hl5_2]); (try simp only [hl137_2]); (with_reducible repeat (first | apply Kd.R_alloc | apply Kd.R_drewN | apply Kd.R_drew)); exact HO_17.out⟩, ⟨by (try simp only [hl5_2]); (try simp only [hl137_2]); (with_reducible repeat (first | apply Kd.R_alloc | apply Kd.R_drewN | apply Kd.R_drew)); exact HO_137.out⟩, ⟨by (try simp only [hl5_2]); (try simp only [hl137_2]); (with_reducible repeat (first | apply Kd.R_alloc | apply Kd.R_drewN | apply Kd.R_drew)); exact HO_166.out⟩, ⟨xB HB.out⟩⟩
          rw [if_neg c55] at H
          have c55b0 : decide (x168_4 < (x10_2.length : Int)) = false := decide_eq_false c55
          (try (have c55b5 := c55b0; rw [hl5_2] at c55b5))
          (try (have c55b6 := c55b0; rw [hl137_2] at c55b6))
          clear c55
          have HC66 := Aside0.mk H
          clear H
          go_upto_region 32 with (fail)
          repeat (go_quiet (fail); go_upto_region 32 with (fail))
          go_cut [212] (fun v212 wc => ∃ (kq : Nat) (x212_65 : Bool), v212 = .bool x212_65 ∧ Aside0 (laws_FnTonesFound.j4 kq l1 x5_2 x6_2 x10_2 (rd x137_2 x139_2) x10_2 x137_2 (y420.length : Int) x139_2 x212_65 = some r) ∧ Aside0 (kq ≤ k4) ∧ Aside0 (Kd.R (Kd.int .i64) 3 wc w.heap.size (fun k_ => some k_ ≠ (v403 : Value).ownBlock ∧ some k_ ≠ ((.slice Ao54 x10_2.length co54) : Value).ownBlock ∧ some k_ ≠ ((.slice Ao54 x10_2.length co54) : Value).ownBlock ∧ some k_ ≠ ((.slice (some ad423) x137_2.length co34) : Value).ownBlock) (.slice Ao12 x5_2.length co12) x5_2) ∧ Aside0 (Kd.R (Kd.int .i64) 3 wc w.heap.size (fun k_ => some k_ ≠ ((.slice Ao12 x5_2.length co12) : Value).ownBlock ∧ some k_ ≠ ((.slice Ao54 x10_2.length co54) : Value).ownBlock ∧ some k_ ≠ ((.slice Ao54 x10_2.length co54) : Value).ownBlock ∧ some k_ ≠ ((.slice (some ad423) x137_2.length co34) : Value).ownBlock) v403 x6_2) ∧ Aside0 (Kd.R (Kd.int .i64) 3 wc w.heap.size (fun k_ => some k_ ≠ ((.slice Ao12 x5_2.length co12) : Value).ownBlock ∧ some k_ ≠ (v403 : Value).ownBlock ∧ some k_ ≠ ((.slice (some ad423) x137_2.length co34) : Value).ownBlock) (.slice Ao54 x10_2.length co54) x10_2) ∧ Aside0 (Kd.R (Kd.int .i64) 3 wc w.heap.size (fun k_ => some k_ ≠ ((.slice Ao12 x5_2.length co12) : Value).ownBlock ∧ some k_ ≠ (v403 : Value).ownBlock ∧ some k_ ≠ ((.slice (some ad423) x137_2.length co34) : Value).ownBlock) (.slice Ao54 x10_2.length co54) x10_2) ∧ Aside0 (Kd.R (Kd.int .i64) 3 wc w.heap.size (fun k_ => some k_ ≠ ((.slice Ao12 x5_2.length co12) : Value).ownBlock ∧ some k_ ≠ (v403 : Value).ownBlock ∧ some k_ ≠ ((.slice Ao54 x10_2.length co54) : Value).ownBlock ∧ some k_ ≠ ((.slice Ao54 x10_2.length co54) : Value).ownBlock) (.slice (some ad423) x137_2.length co34) x137_2) ∧ Aside0 (Below w.heap.size w wc))
          case first => as_aux_lemma =>
           have H := HC66.out
           clear HC66
           by_cases c67 : (x10_2.length : Int) = (rd x137_2 x139_2)
           rotate_left
           ·rw [if_neg c67] at H; exact absurd H (by have hr_ := HRT.out; cases k4 <;> simp [laws_FnTonesFound.j4, hr_])
           as_aux_lemma =>
            rw [if_pos c67] at H
            have c67b0 : ((x10_2.length : Int) == (rd x137_2 x139_2)) = true := beq_iff_eq.mpr c67
            have c67b1 : ((x10_2.length : Int) != (rd x137_2 x139_2)) = false := bne_eq_false_iff_eq.mpr c67
            clear c67
            (first | rw [c67b0] | (simp only [i64_w, i32_w]; rw [c67b0]) | skip)
            have H' := Aside0.mk H
            clear H
            go_wp2
            repeat (go_quiet (fail); try go_wp2)
            go_meet
            case rel => exact ⟨_, ((x20_4 != (wrap64 ((rd x137_2 x139_2) * x21_4)))), (by first | rfl | (simp; done) | (simp [*]; done)), H', ⟨by have := HJ9.out; have := HK2.out; have := HK3.out; have := HK4.out; first | omega | exact Nat.le_refl _⟩, ⟨by (try simp only [hl5_2]); (try simp only [hl137_2]); (with_reducible repeat (first | apply Kd.R_alloc | apply Kd.R_drewN | apply Kd.R_drew)); exact Kd.R_mono HO_5.out (fun _ hk => ⟨hk.1, ⟨hk.2.1, ⟨hk.2.2.1, hk.2.2.2.2.1⟩⟩⟩)⟩, ⟨by (try simp only [hl5_2]); (try simp only [hl137_2]); (with_reducible repeat (first | apply Kd.R_alloc | apply Kd.R_drewN | apply Kd.R_drew)); exact Kd.R_mono HO_6.out (fun _ hk => ⟨hk.1, ⟨hk.2.1, ⟨hk.2.2.1, hk.2.2.2.2.1⟩⟩⟩)⟩, ⟨by (try simp only [hl5_2]); (try simp only [hl137_2]); (with_reducible repeat (first | apply Kd.R_alloc | apply Kd.R_drewN | apply Kd.R_drew)); exact Kd.R_mono HO_10.out (fun _ hk => ⟨hk.1, ⟨hk.2.1, hk.2.2.2⟩⟩)⟩, ⟨by (try simp only [hl5_2]); (try simp only [hl137_2]); (with_reducible repeat (first | apply Kd.R_alloc | apply Kd.R_drewN | apply Kd.R_drew)); exact Kd.R_mono HO_16.out (fun _ hk => ⟨hk.1, ⟨hk.2.1, hk.2.2.2⟩⟩)⟩, ⟨by (try simp only [hl5_2]); (try simp only [hl137_2]); (with_reducible repeat (first | apply Kd.R_alloc | apply Kd.R_drewN | apply Kd.R_drew)); exact Kd.R_mono HO_137.out (fun _ hk => ⟨hk.1, ⟨hk.2.1, ⟨hk.2.2.1, hk.2.2.2.1⟩⟩⟩)⟩, ⟨xB HB.out⟩⟩
          case rest => as_aux_lemma =>
           clear HC66
           try clear c55b0
           obtain ⟨kq, x212_65, rfl, HA, HJ65, HO_5, HO_6, HO_10, HO_16, HO_137, HB⟩ := hcut
           cases kq with
           | zero => exact absurd HA.out (by simp [laws_FnTonesFound.j4])
           | succ kj65 =>
            have H := HA.out
            clear HA
            simp only [laws_FnTonesFound.j4] at H
            by_cases c68 : x212_65 = true
            ·as_aux_lemma =>
              subst c68
              rw [if_pos rfl] at H
              exact absurd ((Option.some.inj H).trans HRT.out) (by decide)
            replace c68 := Bool.eq_false_iff.mpr c68
            subst c68
            rw [if_neg (show ¬ (false = true) by decide)] at H
            replace H := Option.bind_eq_some_iff.mp H
            obtain ⟨⟨t434, t435⟩, A690, H⟩ := H
            (try dsimp only at H)
            have A69 := Aside0.mk A690
            clear A690
            have HC70 := Aside0.mk H
            clear H
            go_upto_region 35 with (first | (go_at_call 13; (with_reducible refine (impl_StrongestPart.calls kj65 _ _ x5_2 (rd x137_2 x139_2) t434 t435 _ ?side1 ?side2 ?sideg A69.out).mono ?_); (case sideg => exact GLob.below HGL.out (xB HB.out)); (case side1 => exact xC ((Kd.R_reads' HO_5.out).2.2)); (case side2 => exact (Kd.R_reads' HO_5.out).2.1); rintro e w71 ⟨rfl, hb⟩; replace HO_5 := Aside0.mk (Kd.R_below (xR HO_5.out) hb); replace HO_6 := Aside0.mk (Kd.R_below (xR HO_6.out) hb); replace HO_10 := Aside0.mk (Kd.R_below (xR HO_10.out) hb); replace HO_16 := Aside0.mk (Kd.R_below (xR HO_16.out) hb); replace HO_137 := Aside0.mk (Kd.R_below (xR HO_137.out) hb); replace HB := Aside0.mk (below_step (xB HB.out) hb); (try clear hb); (try clear hb2); (try clear hk); (try clear hi)))
            repeat (go_quiet (first | (go_at_call 13; (with_reducible refine (impl_StrongestPart.calls kj65 _ _ x5_2 (rd x137_2 x139_2) t434 t435 _ ?side1 ?side2 ?sideg A69.out).mono ?_); (case sideg => exact GLob.below HGL.out (xB HB.out)); (case side1 => exact xC ((Kd.R_reads' HO_5.out).2.2)); (case side2 => exact (Kd.R_reads' HO_5.out).2.1); rintro e w71 ⟨rfl, hb⟩; replace HO_5 := Aside0.mk (Kd.R_below (xR HO_5.out) hb); replace HO_6 := Aside0.mk (Kd.R_below (xR HO_6.out) hb); replace HO_10 := Aside0.mk (Kd.R_below (xR HO_10.out) hb); replace HO_16 := Aside0.mk (Kd.R_below (xR HO_16.out) hb); replace HO_137 := Aside0.mk (Kd.R_below (xR HO_137.out) hb); replace HB := Aside0.mk (below_step (xB HB.out) hb); (try clear hb); (try clear hb2); (try clear hk); (try clear hi))); go_upto_region 35 with (first | (go_at_call 13; (with_reducible refine (impl_StrongestPart.calls kj65 _ _ x5_2 (rd x137_2 x139_2) t434 t435 _ ?side1 ?side2 ?sideg A69.out).mono ?_); (case sideg => exact GLob.below HGL.out (xB HB.out)); (case side1 => exact xC ((Kd.R_reads' HO_5.out).2.2)); (case side2 => exact (Kd.R_reads' HO_5.out).2.1); rintro e w71 ⟨rfl, hb⟩; replace HO_5 := Aside0.mk (Kd.R_below (xR HO_5.out) hb); replace HO_6 := Aside0.mk (Kd.R_below (xR HO_6.out) hb); replace HO_10 := Aside0.mk (Kd.R_below (xR HO_10.out) hb); replace HO_16 := Aside0.mk (Kd.R_below (xR HO_16.out) hb); replace HO_137 := Aside0.mk (Kd.R_below (xR HO_137.out) hb); replace HB := Aside0.mk (below_step (xB HB.out) hb); (try clear hb); (try clear hb2); (try clear hk); (try clear hi))))
            (try simp only [Act.put, List.setIfInBounds_toArray, List.set_cons_zero, List.set_cons_succ])
            go_cut [229] (fun v229 wc => ∃ (kq : Nat) (x229_69 : Bool), v229 = .bool x229_69 ∧ Aside0 (laws_FnTonesFound.j5 kq l1 x5_2 x6_2 x10_2 x10_2 t434 x137_2 (y420.length : Int) x139_2 x229_69 = some r) ∧ Aside0 (kq ≤ kj65) ∧ Aside0 (Kd.R (Kd.int .i64) 3 wc w.heap.size (fun k_ => some k_ ≠ (v403 : Value).ownBlock ∧ some k_ ≠ ((.slice Ao54 x10_2.length co54) : Value).ownBlock ∧ some k_ ≠ ((.slice Ao54 x10_2.length co54) : Value).ownBlock ∧ some k_ ≠ ((.slice (some ad423) x137_2.length co34) : Value).ownBlock) (.slice Ao12 x5_2.length co12) x5_2) ∧ Aside0 (Kd.R (Kd.int .i64) 3 wc w.heap.size (fun k_ => some k_ ≠ ((.slice Ao12 x5_2.length co12) : Value).ownBlock ∧ some k_ ≠ ((.slice Ao54 x10_2.length co54) : Value).ownBlock ∧ some k_ ≠ ((.slice Ao54 x10_2.length co54) : Value).ownBlock ∧ some k_ ≠ ((.slice (some ad423) x137_2.length co34) : Value).ownBlock) v403 x6_2) ∧ Aside0 (Kd.R (Kd.int .i64) 3 wc w.heap.size (fun k_ => some k_ ≠ ((.slice Ao12 x5_2.length co12) : Value).ownBlock ∧ some k_ ≠ (v403 : Value).ownBlock ∧ some k_ ≠ ((.slice (some ad423) x137_2.length co34) : Value).ownBlock) (.slice Ao54 x10_2.length co54) x10_2) ∧ Aside0 (Kd.R (Kd.int .i64) 3 wc w.heap.size (fun k_ => some k_ ≠ ((.slice Ao12 x5_2.length co12) : Value).ownBlock ∧ some k_ ≠ (v403 : Value).ownBlock ∧ some k_ ≠ ((.slice (some ad423) x137_2.length co34) : Value).ownBlock) (.slice Ao54 x10_2.length co54) x10_2) ∧ Aside0 (Kd.R (Kd.int .i64) 3 wc w.heap.size (fun k_ => some k_ ≠ ((.slice Ao12 x5_2.length co12) : Value).ownBlock ∧ some k_ ≠ (v403 : Value).ownBlock ∧ some k_ ≠ ((.slice Ao54 x10_2.length co54) : Value).ownBlock ∧ some k_ ≠ ((.slice Ao54 x10_2.length co54) : Value).ownBlock) (.slice (some ad423) x137_2.length co34) x137_2) ∧ Aside0 (Below w.heap.size w wc))
            case first => as_aux_lemma =>
             have H := HC70.out
             clear HC70
             by_cases c72 : t435 = true
             rotate_left
             ·replace c72 := Bool.eq_false_iff.mpr c72; subst c72; exact absurd H (by have hr_ := HRT.out; cases kj65 <;> simp [laws_FnTonesFound.j5, hr_])
             as_aux_lemma =>
              subst c72
              rw [if_pos rfl] at H
              by_cases c73 : t434 < 0
              ·rw [if_pos c73] at H; exact absurd H (by have hr_ := HRT.out; cases kj65 <;> simp [laws_FnTonesFound.j5, hr_])
              rw [if_neg c73] at H
              have c73b0 : decide (t434 < 0) = false := decide_eq_false c73
              clear c73
              (first | rw [c73b0] | (simp only [i64_w, i32_w]; rw [c73b0]) | skip)
              have H' := Aside0.mk H
              clear H
              go_wp2
              repeat (go_quiet (fail); try go_wp2)
              go_meet
              case rel => exact ⟨_, (decide (t434 ≥ (rd x137_2 x139_2))), (by first | rfl | (simp; done) | (simp [*]; done)), H', ⟨by have := HJ9.out; have := HK2.out; have := HK3.out; have := HK4.out; have := HJ65.out; first | omega | exact Nat.le_refl _⟩, ⟨by (try simp only [hl5_2]); (try simp only [hl137_2]); (with_reducible repeat (first | apply Kd.R_alloc | apply Kd.R_drewN | apply Kd.R_drew)); exact HO_5.out⟩, ⟨by (try simp only [hl5_2]); (try simp only [hl137_2]); (with_reducible repeat (first | apply Kd.R_alloc | apply Kd.R_drewN | apply Kd.R_drew)); exact HO_6.out⟩, ⟨by (try simp only [hl5_2]); (try simp only [hl137_2]); (with_reducible repeat (first | apply Kd.R_alloc | apply Kd.R_drewN | apply Kd.R_drew)); exact HO_10.out⟩, ⟨by (try simp only [hl5_2]); (try simp only [hl137_2]); (with_reducible repeat (first | apply Kd.R_alloc | apply Kd.R_drewN | apply Kd.R_drew)); exact HO_16.out⟩, ⟨by (try simp only [hl5_2]); (try simp only [hl137_2]); (with_reducible repeat (first | apply Kd.R_alloc | apply Kd.R_drewN | apply Kd.R_drew)); exact HO_137.out⟩, ⟨xB HB.out⟩⟩
            case rest => as_aux_lemma =>
             clear HC70
             try clear c68
             obtain ⟨kq, x229_69, rfl, HA, HJ69, HO_5, HO_6, HO_10, HO_16, HO_137, HB⟩ := hcut
             cases kq with
             | zero => exact absurd HA.out (by simp [laws_FnTonesFound.j5])
             | succ kj69 =>
              have H := HA.out
              clear HA
              simp only [laws_FnTonesFound.j5] at H
              by_cases c74 : x229_69 = true
              ·as_aux_lemma =>
                subst c74
                rw [if_pos rfl] at H
                exact absurd ((Option.some.inj H).trans HRT.out) (by decide)
              replace c74 := Bool.eq_false_iff.mpr c74
              subst c74
              rw [if_neg (show ¬ (false = true) by decide)] at H
              have H' := Aside0.mk H
              clear H
              go_wp2
              repeat (go_quiet (fail); try go_wp2)
              go_loopg [232] kj69 (fun kq v232 w' => ∃ (x232_7 : Int), v232 = .int .i64 x232_7 ∧ Aside0 (laws_FnTonesFound.l3 kq l1 x5_2 x6_2 x10_2 x10_2 t434 x137_2 (y420.length : Int) x139_2 x10_2 (x10_2.length : Int) x232_7 = some r) ∧ Aside0 (kq ≤ kj69) ∧ Aside0 (Kd.R (Kd.int .i64) 3 w' w.heap.size (fun k_ => some k_ ≠ (v403 : Value).ownBlock ∧ some k_ ≠ ((.slice Ao54 x10_2.length co54) : Value).ownBlock ∧ some k_ ≠ ((.slice Ao54 x10_2.length co54) : Value).ownBlock ∧ some k_ ≠ ((.slice (some ad423) x137_2.length co34) : Value).ownBlock ∧ some k_ ≠ ((.slice Ao54 x10_2.length co54) : Value).ownBlock) (.slice Ao12 x5_2.length co12) x5_2) ∧ Aside0 (Kd.R (Kd.int .i64) 3 w' w.heap.size (fun k_ => some k_ ≠ ((.slice Ao12 x5_2.length co12) : Value).ownBlock ∧ some k_ ≠ ((.slice Ao54 x10_2.length co54) : Value).ownBlock ∧ some k_ ≠ ((.slice Ao54 x10_2.length co54) : Value).ownBlock ∧ some k_ ≠ ((.slice (some ad423) x137_2.length co34) : Value).ownBlock ∧ some k_ ≠ ((.slice Ao54 x10_2.length co54) : Value).ownBlock) v403 x6_2) ∧ Aside0 (Kd.R (Kd.int .i64) 3 w' w.heap.size (fun k_ => some k_ ≠ ((.slice Ao12 x5_2.length co12) : Value).ownBlock ∧ some k_ ≠ (v403 : Value).ownBlock ∧ some k_ ≠ ((.slice (some ad423) x137_2.length co34) : Value).ownBlock) (.slice Ao54 x10_2.length co54) x10_2) ∧ Aside0 (Kd.R (Kd.int .i64) 3 w' w.heap.size (fun k_ => some k_ ≠ ((.slice Ao12 x5_2.length co12) : Value).ownBlock ∧ some k_ ≠ (v403 : Value).ownBlock ∧ some k_ ≠ ((.slice (some ad423) x137_2.length co34) : Value).ownBlock) (.slice Ao54 x10_2.length co54) x10_2) ∧ Aside0 (Kd.R (Kd.int .i64) 3 w' w.heap.size (fun k_ => some k_ ≠ ((.slice Ao12 x5_2.length co12) : Value).ownBlock ∧ some k_ ≠ (v403 : Value).ownBlock ∧ some k_ ≠ ((.slice Ao54 x10_2.length co54) : Value).ownBlock ∧ some k_ ≠ ((.slice Ao54 x10_2.length co54) : Value).ownBlock ∧ some k_ ≠ ((.slice Ao54 x10_2.length co54) : Value).ownBlock) (.slice (some ad423) x137_2.length co34) x137_2) ∧ Aside0 (Kd.R (Kd.int .i64) 3 w' w.heap.size (fun k_ => some k_ ≠ ((.slice Ao12 x5_2.length co12) : Value).ownBlock ∧ some k_ ≠ (v403 : Value).ownBlock ∧ some k_ ≠ ((.slice (some ad423) x137_2.length co34) : Value).ownBlock) (.slice Ao54 x10_2.length co54) x10_2) ∧ Aside0 (Below w.heap.size w w'))
              case atStart => exact ⟨(0), (by first | rfl | (simp; done) | (simp [*]; done)), H', ⟨Nat.le_refl _⟩, ⟨by (try simp only [hl5_2]); (try simp only [hl137_2]); (with_reducible repeat (first | apply Kd.R_alloc | apply Kd.R_drewN | apply Kd.R_drew)); exact Kd.R_mono HO_5.out (fun _ hk => ⟨hk.1, ⟨hk.2.1, ⟨hk.2.2.1, ⟨hk.2.2.2, hk.2.2.1⟩⟩⟩⟩)⟩, ⟨by (try simp only [hl5_2]); (try simp only [hl137_2]); (with_reducible repeat (first | apply Kd.R_alloc | apply Kd.R_drewN | apply Kd.R_drew)); exact Kd.R_mono HO_6.out (fun _ hk => ⟨hk.1, ⟨hk.2.1, ⟨hk.2.2.1, ⟨hk.2.2.2, hk.2.2.1⟩⟩⟩⟩)⟩, ⟨by (try simp only [hl5_2]); (try simp only [hl137_2]); (with_reducible repeat (first | apply Kd.R_alloc | apply Kd.R_drewN | apply Kd.R_drew)); exact HO_10.out⟩, ⟨by (try simp only [hl5_2]); (try simp only [hl137_2]); (with_reducible repeat (first | apply Kd.R_alloc | apply Kd.R_drewN | apply Kd.R_drew)); exact HO_16.out⟩, ⟨by (try simp only [hl5_2]); (try simp only [hl137_2]); (with_reducible repeat (first | apply Kd.R_alloc | apply Kd.R_drewN | apply Kd.R_drew)); exact Kd.R_mono HO_137.out (fun _ hk => ⟨hk.1, ⟨hk.2.1, ⟨hk.2.2.1, ⟨hk.2.2.2, hk.2.2.2⟩⟩⟩⟩)⟩, ⟨by (try simp only [hl5_2]); (try simp only [hl137_2]); (with_reducible repeat (first | apply Kd.R_alloc | apply Kd.R_drewN | apply Kd.R_drew)); exact HO_16.out⟩, ⟨xB HB.out⟩⟩
              case round =>
               clear H'
               try clear c74
               obtain ⟨x232_7, rfl, HA, HK7, HO_5, HO_6, HO_10, HO_16, HO_137, HO_230, HB⟩ := hrel
               cases gk with
               | zero => exact absurd HA.out (by simp [laws_FnTonesFound.l3])
               | succ k7 =>
                have H := HA.out
                clear HA
                simp only [laws_FnTonesFound.l3] at H
                by_cases c75 : x232_7 < (x10_2.length : Int)
                rotate_left
                ·as_aux_lemma =>
                  rw [if_neg c75] at H
                  have c75b0 : decide (x232_7 < (x10_2.length : Int)) = false := decide_eq_false c75
                  (try (have c75b5 := c75b0; rw [hl5_2] at c75b5))
                  (try (have c75b6 := c75b0; rw [hl137_2] at c75b6))
                  clear c75
                  have H' := Aside0.mk H
                  clear H
                  go_wp2
                  repeat (go_quiet (fail); try go_wp2)
                  (try simp only [← hl5_2, ← hl137_2])
                  go_roundg k7
                  case measure => have := HJ9.out; have := HK2.out; have := HK3.out; have := HK4.out; have := HJ65.out; have := HJ69.out; have := HK7.out; omega
                  case rel => exact ⟨(x5_2), (x6_2), (x10_2), (x137_2), (wrap64 (x139_2 + 1)), (by first | rfl | (simp; done) | (simp [*]; done)), H', ⟨by have := HJ9.out; have := HK2.out; have := HK3.out; have := HK4.out; have := HJ65.out; have := HJ69.out; have := HK7.out; omega⟩, ⟨by (try simp only [hl5_2]); (try simp only [hl137_2]); (with_reducible repeat (first | apply Kd.R_alloc | apply Kd.R_drewN | apply Kd.R_drew)); exact Kd.R_mono HO_5.out (fun _ hk => ⟨hk.1, ⟨hk.2.1, hk.2.2.2.1⟩⟩)⟩, ⟨by (try simp only [hl5_2]); (try simp only [hl137_2]); (with_reducible repeat (first | apply Kd.R_alloc | apply Kd.R_drewN | apply Kd.R_drew)); exact Kd.R_mono HO_6.out (fun _ hk => ⟨hk.1, ⟨hk.2.1, hk.2.2.2.1⟩⟩)⟩, ⟨by (try simp only [hl5_2]); (try simp only [hl137_2]); (with_reducible repeat (first | apply Kd.R_alloc | apply Kd.R_drewN | apply Kd.R_drew)); exact HO_10.out⟩, ⟨by (try simp only [hl5_2]); (try simp only [hl137_2]); (with_reducible repeat (first | apply Kd.R_alloc | apply Kd.R_drewN | apply Kd.R_drew)); exact Kd.R_mono HO_137.out (fun _ hk => ⟨hk.1, ⟨hk.2.1, hk.2.2.1⟩⟩)⟩, ⟨xB HB.out⟩⟩
                rw [if_pos c75] at H
                have c75b0 : decide (x232_7 < (x10_2.length : Int)) = true := decide_eq_true c75
                (try (have c75b5 := c75b0; rw [hl5_2] at c75b5))
                (try (have c75b6 := c75b0; rw [hl137_2] at c75b6))
                clear c75
                by_cases c76 : 0 ≤ x232_7
                rotate_left
                ·rw [if_neg c76] at H
                 exact absurd H (by simp)
                rw [if_pos c76] at H
                have c76b0 : decide (0 ≤ x232_7) = true := decide_eq_true c76
                clear c76
                by_cases c77 : x232_7 < (x10_2.length : Int)
                rotate_left
                ·rw [if_neg c77] at H
                 exact absurd H (by simp)
                rw [if_pos c77] at H
                have c77b0 : decide (x232_7 < (x10_2.length : Int)) = true := decide_eq_true c77
                (try (have c77b5 := c77b0; rw [hl5_2] at c77b5))
                (try (have c77b6 := c77b0; rw [hl137_2] at c77b6))
                clear c77
                by_cases c78 : 0 ≤ t434
                rotate_left
                ·rw [if_neg c78] at H
                 exact absurd H (by simp)
                rw [if_pos c78] at H
                have c78b0 : decide (0 ≤ t434) = true := decide_eq_true c78
                clear c78
                by_cases c79 : t434 < (x10_2.length : Int)
                rotate_left
                ·rw [if_neg c79] at H
                 exact absurd H (by simp)
                rw [if_pos c79] at H
                have c79b0 : decide (t434 < (x10_2.length : Int)) = true := decide_eq_true c79
                (try (have c79b5 := c79b0; rw [hl5_2] at c79b5))
                (try (have c79b6 := c79b0; rw [hl137_2] at c79b6))
                clear c79
                by_cases c80 : (rd x10_2 x232_7) > (rd x10_2 t434)
                ·rw [if_pos c80] at H
                 have c80b0 : decide ((rd x10_2 t434) < (rd x10_2 x232_7)) = true := decide_eq_true c80
                 clear c80
                 exact absurd ((Option.some.inj H).trans HRT.out) (by decide)
                rw [if_neg c80] at H
                have c80b0 : decide ((rd x10_2 t434) < (rd x10_2 x232_7)) = false := decide_eq_false c80
                clear c80
                by_cases c81 : x232_7 < t434
                rotate_left
                ·as_aux_lemma =>
                  rw [if_neg c81] at H
                  have c81b0 : decide (x232_7 < t434) = false := decide_eq_false c81
                  clear c81
                  have H' := Aside0.mk H
                  clear H
                  have p436 : 0 ≤ (x232_7 : Int) := of_decide_eq_true (by first | (with_reducible assumption) | assumption)
                  have q436 : x232_7 < (x10_2.length : Int) := of_decide_eq_true (by first | (with_reducible assumption) | assumption)
                  obtain ⟨ad436, e436, hx436_0⟩ := Kd.at_int (Kd.R_reads' HO_230.out).2.2 x232_7 p436 q436
                  cases e436
                  replace p436 := eq_true p436
                  replace q436 := eq_true q436
                  have p437 : 0 ≤ (t434 : Int) := of_decide_eq_true (by first | (with_reducible assumption) | assumption)
                  have q437 : t434 < (x10_2.length : Int) := of_decide_eq_true (by first | (with_reducible assumption) | assumption)
                  obtain ⟨ad437, e437, hx437_0⟩ := Kd.at_int (Kd.R_reads' HO_16.out).2.2 t434 p437 q437
                  obtain rfl : ad436 = ad437 := (by injection e437)
                  replace p437 := eq_true p437
                  replace q437 := eq_true q437
                  go_wp2
                  repeat (go_quiet (fail); try go_wp2)
                  go_roundg k7
                  case measure => have := HJ9.out; have := HK2.out; have := HK3.out; have := HK4.out; have := HJ65.out; have := HJ69.out; have := HK7.out; omega
                  case rel => exact ⟨(wrap64 (x232_7 + 1)), (by first | rfl | (simp; done) | (simp [*]; done)), H', ⟨by have := HJ9.out; have := HK2.out; have := HK3.out; have := HK4.out; have := HJ65.out; have := HJ69.out; have := HK7.out; omega⟩, ⟨by (try simp only [hl5_2]); (try simp only [hl137_2]); (with_reducible repeat (first | apply Kd.R_alloc | apply Kd.R_drewN | apply Kd.R_drew)); exact HO_5.out⟩, ⟨by (try simp only [hl5_2]); (try simp only [hl137_2]); (with_reducible repeat (first | apply Kd.R_alloc | apply Kd.R_drewN | apply Kd.R_drew)); exact HO_6.out⟩, ⟨by (try simp only [hl5_2]); (try simp only [hl137_2]); (with_reducible repeat (first | apply Kd.R_alloc | apply Kd.R_drewN | apply Kd.R_drew)); exact HO_10.out⟩, ⟨by (try simp only [hl5_2]); (try simp only [hl137_2]); (with_reducible repeat (first | apply Kd.R_alloc | apply Kd.R_drewN | apply Kd.R_drew)); exact HO_16.out⟩, ⟨by (try simp only [hl5_2]); (try simp only [hl137_2]); (with_reducible repeat (first | apply Kd.R_alloc | apply Kd.R_drewN | apply Kd.R_drew)); exact HO_137.out⟩, ⟨by (try simp only [hl5_2]); (try simp only [hl137_2]); (with_reducible repeat (first | apply Kd.R_alloc | apply Kd.R_drewN | apply Kd.R_drew)); exact HO_230.out⟩, ⟨xB HB.out⟩⟩
                as_aux_lemma =>
                 rw [if_pos c81] at H
                 have c81b0 : decide (x232_7 < t434) = true := decide_eq_true c81
                 clear c81
                 by_cases c82 : (rd x10_2 x232_7) = (rd x10_2 t434)
                 ·rw [if_pos c82] at H
                  have c82b0 : ((rd x10_2 x232_7) == (rd x10_2 t434)) = true := beq_iff_eq.mpr c82
                  have c82b1 : ((rd x10_2 x232_7) != (rd x10_2 t434)) = false := bne_eq_false_iff_eq.mpr c82
                  clear c82
                  exact absurd ((Option.some.inj H).trans HRT.out) (by decide)
                 rw [if_neg c82] at H
                 have c82b0 : ((rd x10_2 x232_7) == (rd x10_2 t434)) = false := beq_eq_false_iff_ne.mpr c82
                 have c82b1 : ((rd x10_2 x232_7) != (rd x10_2 t434)) = true := bne_iff_ne.mpr c82
                 have H' := Aside0.mk H
                 clear H
                 have p436 : 0 ≤ (x232_7 : Int) := of_decide_eq_true (by first | (with_reducible assumption) | assumption)
                 have q436 : x232_7 < (x10_2.length : Int) := of_decide_eq_true (by first | (with_reducible assumption) | assumption)
                 obtain ⟨ad436, e436, hx436_0⟩ := Kd.at_int (Kd.R_reads' HO_230.out).2.2 x232_7 p436 q436
                 cases e436
                 replace p436 := eq_true p436
                 replace q436 := eq_true q436
                 have p437 : 0 ≤ (t434 : Int) := of_decide_eq_true (by first | (with_reducible assumption) | assumption)
                 have q437 : t434 < (x10_2.length : Int) := of_decide_eq_true (by first | (with_reducible assumption) | assumption)
                 obtain ⟨ad437, e437, hx437_0⟩ := Kd.at_int (Kd.R_reads' HO_16.out).2.2 t434 p437 q437
                 obtain rfl : ad436 = ad437 := (by injection e437)
                 replace p437 := eq_true p437
                 replace q437 := eq_true q437
                 have p438 : 0 ≤ (t434 : Int) := of_decide_eq_true (by first | (with_reducible assumption) | assumption)
                 have q438 : t434 < (x10_2.length : Int) := of_decide_eq_true (by first | (with_reducible assumption) | assumption)
                 obtain ⟨ad438, e438, hx438_0⟩ := Kd.at_int (Kd.R_reads' HO_16.out).2.2 t434 p438 q438
                 obtain rfl : ad436 = ad438 := (by injection e438)
                 replace p438 := eq_true p438
                 replace q438 := eq_true q438
                 go_wp2
                 repeat (go_quiet (fail); try go_wp2)
                 go_roundg k7
                 case measure => have := HJ9.out; have := HK2.out; have := HK3.out; have := HK4.out; have := HJ65.out; have := HJ69.out; have := HK7.out; omega
                 case rel => exact ⟨(wrap64 (x232_7 + 1)), (by first | rfl | (simp; done) | (simp [*]; done)), H', ⟨by have := HJ9.out; have := HK2.out; have := HK3.out; have := HK4.out; have := HJ65.out; have := HJ69.out; have := HK7.out; omega⟩, ⟨by (try simp only [hl5_2]); (try simp only [hl137_2]); (with_reducible repeat (first | apply Kd.R_alloc | apply Kd.R_drewN | apply Kd.R_drew)); exact HO_5.out⟩, ⟨by (try simp only [hl5_2]); (try simp only [hl137_2]); (with_reducible repeat (first | apply Kd.R_alloc | apply Kd.R_drewN | apply Kd.R_drew)); exact HO_6.out⟩, ⟨by (try simp only [hl5_2]); (try simp only [hl137_2]); (with_reducible repeat (first | apply Kd.R_alloc | apply Kd.R_drewN | apply Kd.R_drew)); exact HO_10.out⟩, ⟨by (try simp only [hl5_2]); (try simp only [hl137_2]); (with_reducible repeat (first | apply Kd.R_alloc | apply Kd.R_drewN | apply Kd.R_drew)); exact HO_16.out⟩, ⟨by (try simp only [hl5_2]); (try simp only [hl137_2]); (with_reducible repeat (first | apply Kd.R_alloc | apply Kd.R_drewN | apply Kd.R_drew)); exact HO_137.out⟩, ⟨by (try simp only [hl5_2]); (try simp only [hl137_2]); (with_reducible repeat (first | apply Kd.R_alloc | apply Kd.R_drewN | apply Kd.R_drew)); exact HO_230.out⟩, ⟨xB HB.out⟩⟩
   case rest => as_aux_lemma =>
    clear HC30
    try clear c29
    obtain ⟨kq, HA, HJ29, HB⟩ := hcut
    cases kq with
    | zero => exact absurd HA.out (by simp [laws_FnTonesFound.j7])
    | succ kj29 =>
     have H := HA.out
     clear HA
     simp only [laws_FnTonesFound.j7] at H
     replace H := Option.bind_eq_some_iff.mp H
     obtain ⟨⟨t451, t452⟩, A1410, H⟩ := H
     (try dsimp only at H)
     have A141 := Aside0.mk A1410
     clear A1410
     replace H := Option.bind_eq_some_iff.mp H
     obtain ⟨⟨t455, t456, t457⟩, A1420, H⟩ := H
     (try dsimp only at H)
     have A142 := Aside0.mk A1420
     clear A1420
     replace H := Option.bind_eq_some_iff.mp H
     obtain ⟨⟨t458, t459, t460⟩, A1430, H⟩ := H
     (try dsimp only at H)
     have A143 := Aside0.mk A1430
     clear A1430
     replace H := Option.bind_eq_some_iff.mp H
     obtain ⟨⟨t461, t462⟩, A1440, H⟩ := H
     (try dsimp only at H)
     have A144 := Aside0.mk A1440
     clear A1440
     replace H := Option.bind_eq_some_iff.mp H
     obtain ⟨⟨t465, t466, t467⟩, A1450, H⟩ := H
     (try dsimp only at H)
     have A145 := Aside0.mk A1450
     clear A1450
     replace H := Option.bind_eq_some_iff.mp H
     obtain ⟨⟨t468, t469, t470⟩, A1460, H⟩ := H
     (try dsimp only at H)
     have A146 := Aside0.mk A1460
     clear A1460
     replace H := Option.bind_eq_some_iff.mp H
     obtain ⟨⟨t471, t472, t473, t474⟩, A1470, H⟩ := H
     (try dsimp only at H)
     have A147 := Aside0.mk A1470
     clear A1470
     replace H := Option.bind_eq_some_iff.mp H
     obtain ⟨⟨t475, t476⟩, A1480, H⟩ := H
     (try dsimp only at H)
     have A148 := Aside0.mk A1480
     clear A1480
     replace H := Option.bind_eq_some_iff.mp H
     obtain ⟨⟨t479, t480⟩, A1490, H⟩ := H
     (try dsimp only at H)
     have A149 := Aside0.mk A1490
     clear A1490
     replace H := Option.bind_eq_some_iff.mp H
     obtain ⟨⟨t483, t484⟩, A1500, H⟩ := H
     (try dsimp only at H)
     have A150 := Aside0.mk A1500
     clear A1500
     replace H := Option.bind_eq_some_iff.mp H
     obtain ⟨⟨t487, t488, t489⟩, A1510, H⟩ := H
     (try dsimp only at H)
     have A151 := Aside0.mk A1510
     clear A1510
     replace H := Option.bind_eq_some_iff.mp H
     obtain ⟨⟨t490, t491, t492⟩, A1520, H⟩ := H
     (try dsimp only at H)
     have A152 := Aside0.mk A1520
     clear A1520
     replace H := Option.bind_eq_some_iff.mp H
     obtain ⟨⟨t493, t494⟩, A1530, H⟩ := H
     (try dsimp only at H)
     have A153 := Aside0.mk A1530
     clear A1530
     replace H := Option.bind_eq_some_iff.mp H
     obtain ⟨⟨t495, t496⟩, A1540, H⟩ := H
     (try dsimp only at H)
     have A154 := Aside0.mk A1540
     clear A1540
     replace H := Option.bind_eq_some_iff.mp H
     obtain ⟨⟨t497, t498⟩, A1550, H⟩ := H
     (try dsimp only at H)
     have A155 := Aside0.mk A1550
     clear A1550
     replace H := Option.bind_eq_some_iff.mp H
     obtain ⟨⟨t501, t502⟩, A1560, H⟩ := H
     (try dsimp only at H)
     have A156 := Aside0.mk A1560
     clear A1560
     replace H := Option.bind_eq_some_iff.mp H
     obtain ⟨⟨t503, t504⟩, A1570, H⟩ := H
     (try dsimp only at H)
     have A157 := Aside0.mk A1570
     clear A1570
     have HC158 := Aside0.mk H
     clear H
     go_upto_region 66 with (first | (go_at_call 15; (with_reducible refine (spec_DrawFourTone.calls kj29 _ _ l1 t451 t452 _ ?side1 ?side2 A141.out).mono ?_); (case side1 => exact xC (Kd.C_below HR1.out HB.out)); (case side2 => exact HC1.out); rintro e w159 ⟨v453, rfl, ho0, hb⟩; have HO454 := Aside0.mk (Kd.R_lower ho0 (below_size (xB HB.out))); replace HB := Aside0.mk (below_step (xB HB.out) hb); (try clear hb); (try clear hb2); (try clear hk); (try clear hi); (try clear ho0); obtain ⟨Ao160, co160, eo160⟩ := Kd.R_slice HO454.out; subst eo160) | (go_at_call 16; (with_reducible refine (impl_FourTone.calls kj29 _ _ t451 t452 t455 t456 t457 _ ?side1 ?side2 ?sideg A142.out).mono ?_); (case sideg => exact GLob.below HGL.out (xB HB.out)); (case side1 => exact xC ((Kd.R_reads' HO454.out).2.2)); (case side2 => exact (Kd.R_reads' HO454.out).2.1); rintro e w161 ⟨rfl, hb⟩; replace HO454 := Aside0.mk (Kd.R_below (xR HO454.out) hb); replace HB := Aside0.mk (below_step (xB HB.out) hb); (try clear hb); (try clear hb2); (try clear hk); (try clear hi)) | (go_at_call 17; (with_reducible refine (spec_FourTone.calls kj29 _ _ t451 t452 t458 t459 t460 _ ?side1 ?side2 A143.out).mono ?_); (case side1 => exact xC ((Kd.R_reads' HO454.out).2.2)); (case side2 => exact (Kd.R_reads' HO454.out).2.1); rintro e w162 ⟨rfl, hb⟩; replace HO454 := Aside0.mk (Kd.R_below (xR HO454.out) hb); replace HB := Aside0.mk (below_step (xB HB.out) hb); (try clear hb); (try clear hb2); (try clear hk); (try clear hi)) | (go_at_call 18; (with_reducible refine (spec_DrawSixTone.calls kj29 _ _ l1 t461 t462 _ ?side1 ?side2 A144.out).mono ?_); (case side1 => exact xC (Kd.C_below HR1.out HB.out)); (case side2 => exact HC1.out); rintro e w163 ⟨v463, rfl, ho0, hb⟩; have HO464 := Aside0.mk (Kd.R_lower (Kd.R_new' ho0 (Kd.R_lt (xR HO454.out))) (below_size (xB HB.out))); replace HO454 := Aside0.mk (Kd.R_elder' (xR HO454.out) (Kd.R_base ho0) hb); replace HB := Aside0.mk (below_step (xB HB.out) hb); (try clear hb); (try clear hb2); (try clear hk); (try clear hi); (try clear ho0); obtain ⟨Ao164, co164, eo164⟩ := Kd.R_slice HO464.out; subst eo164) | (go_at_call 19; (with_reducible refine (impl_SixTone.calls kj29 _ _ t461 t462 t465 t466 t467 _ ?side1 ?side2 ?sideg A145.out).mono ?_); (case sideg => exact GLob.below HGL.out (xB HB.out)); (case side1 => exact xC ((Kd.R_reads' HO464.out).2.2)); (case side2 => exact (Kd.R_reads' HO464.out).2.1); rintro e w165 ⟨rfl, hb⟩; replace HO454 := Aside0.mk (Kd.R_below (xR HO454.out) hb); replace HO464 := Aside0.mk (Kd.R_below (xR HO464.out) hb); replace HB := Aside0.mk (below_step (xB HB.out) hb); (try clear hb); (try clear hb2); (try clear hk); (try clear hi)) | (go_at_call 20; (with_reducible refine (spec_SixTone.calls kj29 _ _ t461 t462 t468 t469 t470 _ ?side1 ?side2 A146.out).mono ?_); (case side1 => exact xC ((Kd.R_reads' HO464.out).2.2)); (case side2 => exact (Kd.R_reads' HO464.out).2.1); rintro e w166 ⟨rfl, hb⟩; replace HO454 := Aside0.mk (Kd.R_below (xR HO454.out) hb); replace HO464 := Aside0.mk (Kd.R_below (xR HO464.out) hb); replace HB := Aside0.mk (below_step (xB HB.out) hb); (try clear hb); (try clear hb2); (try clear hk); (try clear hi)) | (go_at_call 21; (with_reducible refine (spec_DrawToneOfPart.calls _ _ l1 t471 t472 t473 t474 _ ?side1 ?side2 A147.out).mono ?_); (case side1 => exact xC (Kd.C_below HR1.out HB.out)); (case side2 => exact HC1.out); rintro e w167 ⟨rfl, hb⟩; replace HO454 := Aside0.mk (Kd.R_below (xR HO454.out) hb); replace HO464 := Aside0.mk (Kd.R_below (xR HO464.out) hb); replace HB := Aside0.mk (below_step (xB HB.out) hb); (try clear hb); (try clear hb2); (try clear hk); (try clear hi)) | (go_at_call 22; (with_reducible refine (impl_ToneOfPart.calls kj29 t471 t472 t473 t474 t475 t476 _ ?sideg A148.out).mono ?_); (case sideg => exact GLob.below HGL.out (xB HB.out)); rintro e w168 ⟨v477, rfl, ho0, hb⟩; have HO478 := Aside0.mk (Kd.R_lower (Kd.R_new' (Kd.R_new' ho0 (Kd.R_lt (xR HO454.out))) (Kd.R_lt (xR HO464.out))) (below_size (xB HB.out))); replace HO454 := Aside0.mk (Kd.R_elder' (xR HO454.out) (Kd.R_base ho0) hb); replace HO464 := Aside0.mk (Kd.R_elder' (xR HO464.out) (Kd.R_base ho0) hb); replace HB := Aside0.mk (below_step (xB HB.out) hb); (try clear hb); (try clear hb2); (try clear hk); (try clear hi); (try clear ho0)) | (go_at_call 23; (with_reducible refine (spec_ToneOfPart.calls kj29 t471 t472 t473 t474 t479 t480 _ A149.out).mono ?_); rintro e w169 ⟨v481, rfl, ho0, hb⟩; have HO482 := Aside0.mk (Kd.R_lower (Kd.R_new' (Kd.R_new' (Kd.R_new' ho0 (Kd.R_lt (xR HO454.out))) (Kd.R_lt (xR HO464.out))) (Kd.R_lt (xR HO478.out))) (below_size (xB HB.out))); replace HO454 := Aside0.mk (Kd.R_elder' (xR HO454.out) (Kd.R_base ho0) hb); replace HO464 := Aside0.mk (Kd.R_elder' (xR HO464.out) (Kd.R_base ho0) hb); replace HO478 := Aside0.mk (Kd.R_elder' (xR HO478.out) (Kd.R_base ho0) hb); replace HB := Aside0.mk (below_step (xB HB.out) hb); (try clear hb); (try clear hb2); (try clear hk); (try clear hi); (try clear ho0)) | (go_at_call 24; (with_reducible refine (spec_DrawToneStates.calls kj29 _ _ l1 t483 t484 _ ?side1 ?side2 A150.out).mono ?_); (case side1 => exact xC (Kd.C_below HR1.out HB.out)); (case side2 => exact HC1.out); rintro e w170 ⟨v485, rfl, ho0, hb⟩; have HO486 := Aside0.mk (Kd.R_lower (Kd.R_new' (Kd.R_new' (Kd.R_new' (Kd.R_new' ho0 (Kd.R_lt (xR HO454.out))) (Kd.R_lt (xR HO464.out))) (Kd.R_lt (xR HO478.out))) (Kd.R_lt (xR HO482.out))) (below_size (xB HB.out))); replace HO454 := Aside0.mk (Kd.R_elder' (xR HO454.out) (Kd.R_base ho0) hb); replace HO464 := Aside0.mk (Kd.R_elder' (xR HO464.out) (Kd.R_base ho0) hb); replace HO478 := Aside0.mk (Kd.R_elder' (xR HO478.out) (Kd.R_base ho0) hb); replace HO482 := Aside0.mk (Kd.R_elder' (xR HO482.out) (Kd.R_base ho0) hb); replace HB := Aside0.mk (below_step (xB HB.out) hb); (try clear hb); (try clear hb2); (try clear hk); (try clear hi); (try clear ho0); obtain ⟨Ao171, co171, eo171⟩ := Kd.R_slice HO486.out; subst eo171) | (go_at_call 25; (with_reducible refine (impl_ToneStates.calls kj29 _ _ t483 t484 t487 t488 t489 _ ?side1 ?side2 A151.out).mono ?_); (case side1 => exact xC ((Kd.R_reads' HO486.out).2.2)); (case side2 => exact (Kd.R_reads' HO486.out).2.1); rintro e w' ⟨rfl, ⟨nd, rfl⟩⟩; (try exact xD)) | (go_at_call 26; (with_reducible refine (spec_ToneStates.calls kj29 _ _ t483 t484 t490 t491 t492 _ ?side1 ?side2 A152.out).mono ?_); (case side1 => exact xC ((Kd.R_reads' HO486.out).2.2)); (case side2 => exact (Kd.R_reads' HO486.out).2.1); rintro e w' ⟨rfl, ⟨nd, rfl⟩⟩; (try exact xD)) | (go_at_call 14; (with_reducible refine (impl_TonePower.calls kj29 _ _ t483 t484 t493 t494 _ ?side1 ?side2 A153.out).mono ?_); (case side1 => exact xC ((Kd.R_reads' HO486.out).2.2)); (case side2 => exact (Kd.R_reads' HO486.out).2.1); rintro e w' ⟨rfl, ⟨nd, rfl⟩⟩; (try exact xD)) | (go_at_call 27; (with_reducible refine (spec_TonePower.calls kj29 _ _ t483 t484 t495 t496 _ ?side1 ?side2 A154.out).mono ?_); (case side1 => exact xC ((Kd.R_reads' HO486.out).2.2)); (case side2 => exact (Kd.R_reads' HO486.out).2.1); rintro e w' ⟨rfl, ⟨nd, rfl⟩⟩; (try exact xD)) | (go_at_call 28; (with_reducible refine (spec_DrawStrongestPart.calls kj29 _ _ l1 t497 t498 _ ?side1 ?side2 A155.out).mono ?_); (case side1 => repeat (first | exact (Kd.C_below HR1.out (xB HB.out)) | (with_reducible refine Kd.C_alloc ?_ _) | (with_reducible refine Kd.C_drewN ?_ _) | (with_reducible refine Kd.C_drew ?_))); (case side2 => exact HC1.out); rintro e w172 ⟨v499, rfl, ho0, hb⟩; have HO500 := Aside0.mk (Kd.R_lower (Kd.R_new' (Kd.R_new' (Kd.R_new' (Kd.R_new' (Kd.R_new' ho0 (Kd.R_lt (xR HO454.out))) (Kd.R_lt (xR HO464.out))) (Kd.R_lt (xR HO478.out))) (Kd.R_lt (xR HO482.out))) (Kd.R_lt (xR HO486.out))) (below_size (xB HB.out))); replace HO454 := Aside0.mk (Kd.R_elder' (xR HO454.out) (Kd.R_base ho0) hb); replace HO464 := Aside0.mk (Kd.R_elder' (xR HO464.out) (Kd.R_base ho0) hb); replace HO478 := Aside0.mk (Kd.R_elder' (xR HO478.out) (Kd.R_base ho0) hb); replace HO482 := Aside0.mk (Kd.R_elder' (xR HO482.out) (Kd.R_base ho0) hb); replace HO486 := Aside0.mk (Kd.R_elder' (xR HO486.out) (Kd.R_base ho0) hb); replace HB := Aside0.mk (below_step (xB HB.out) hb); (try clear hb); (try clear hb2); (try clear hk); (try clear hi); (try clear ho0); obtain ⟨Ao173, co173, eo173⟩ := Kd.R_slice HO500.out; subst eo173) | (go_at_call 13; (with_reducible refine (impl_StrongestPart.calls kj29 _ _ t497 t498 t501 t502 _ ?side1 ?side2 ?sideg A156.out).mono ?_); (case sideg => exact GLob.below HGL.out (xB HB.out)); (case side1 => exact xC ((Kd.R_reads' HO500.out).2.2)); (case side2 => exact (Kd.R_reads' HO500.out).2.1); rintro e w174 ⟨rfl, hb⟩; replace HO454 := Aside0.mk (Kd.R_below (xR HO454.out) hb); replace HO464 := Aside0.mk (Kd.R_below (xR HO464.out) hb); replace HO478 := Aside0.mk (Kd.R_below (xR HO478.out) hb); replace HO482 := Aside0.mk (Kd.R_below (xR HO482.out) hb); replace HO486 := Aside0.mk (Kd.R_below (xR HO486.out) hb); replace HO500 := Aside0.mk (Kd.R_below (xR HO500.out) hb); replace HB := Aside0.mk (below_step (xB HB.out) hb); (try clear hb); (try clear hb2); (try clear hk); (try clear hi)) | (go_at_call 29; (with_reducible refine (spec_StrongestPart.calls kj29 _ _ t497 t498 t503 t504 _ ?side1 ?side2 A157.out).mono ?_); (case side1 => exact xC ((Kd.R_reads' HO500.out).2.2)); (case side2 => exact (Kd.R_reads' HO500.out).2.1); rintro e w175 ⟨rfl, hb⟩; replace HO454 := Aside0.mk (Kd.R_below (xR HO454.out) hb); replace HO464 := Aside0.mk (Kd.R_below (xR HO464.out) hb); replace HO478 := Aside0.mk (Kd.R_below (xR HO478.out) hb); replace HO482 := Aside0.mk (Kd.R_below (xR HO482.out) hb); replace HO486 := Aside0.mk (Kd.R_below (xR HO486.out) hb); replace HO500 := Aside0.mk (Kd.R_below (xR HO500.out) hb); replace HB := Aside0.mk (below_step (xB HB.out) hb); (try clear hb); (try clear hb2); (try clear hk); (try clear hi)))
     repeat (go_quiet (first | (go_at_call 15; (with_reducible refine (spec_DrawFourTone.calls kj29 _ _ l1 t451 t452 _ ?side1 ?side2 A141.out).mono ?_); (case side1 => exact xC (Kd.C_below HR1.out HB.out)); (case side2 => exact HC1.out); rintro e w159 ⟨v453, rfl, ho0, hb⟩; have HO454 := Aside0.mk (Kd.R_lower ho0 (below_size (xB HB.out))); replace HB := Aside0.mk (below_step (xB HB.out) hb); (try clear hb); (try clear hb2); (try clear hk); (try clear hi); (try clear ho0); obtain ⟨Ao160, co160, eo160⟩ := Kd.R_slice HO454.out; subst eo160) | (go_at_call 16; (with_reducible refine (impl_FourTone.calls kj29 _ _ t451 t452 t455 t456 t457 _ ?side1 ?side2 ?sideg A142.out).mono ?_); (case sideg => exact GLob.below HGL.out (xB HB.out)); (case side1 => exact xC ((Kd.R_reads' HO454.out).2.2)); (case side2 => exact (Kd.R_reads' HO454.out).2.1); rintro e w161 ⟨rfl, hb⟩; replace HO454 := Aside0.mk (Kd.R_below (xR HO454.out) hb); replace HB := Aside0.mk (below_step (xB HB.out) hb); (try clear hb); (try clear hb2); (try clear hk); (try clear hi)) | (go_at_call 17; (with_reducible refine (spec_FourTone.calls kj29 _ _ t451 t452 t458 t459 t460 _ ?side1 ?side2 A143.out).mono ?_); (case side1 => exact xC ((Kd.R_reads' HO454.out).2.2)); (case side2 => exact (Kd.R_reads' HO454.out).2.1); rintro e w162 ⟨rfl, hb⟩; replace HO454 := Aside0.mk (Kd.R_below (xR HO454.out) hb); replace HB := Aside0.mk (below_step (xB HB.out) hb); (try clear hb); (try clear hb2); (try clear hk); (try clear hi)) | (go_at_call 18; (with_reducible refine (spec_DrawSixTone.calls kj29 _ _ l1 t461 t462 _ ?side1 ?side2 A144.out).mono ?_); (case side1 => exact xC (Kd.C_below HR1.out HB.out)); (case side2 => exact HC1.out); rintro e w163 ⟨v463, rfl, ho0, hb⟩; have HO464 := Aside0.mk (Kd.R_lower (Kd.R_new' ho0 (Kd.R_lt (xR HO454.out))) (below_size (xB HB.out))); replace HO454 := Aside0.mk (Kd.R_elder' (xR HO454.out) (Kd.R_base ho0) hb); replace HB := Aside0.mk (below_step (xB HB.out) hb); (try clear hb); (try clear hb2); (try clear hk); (try clear hi); (try clear ho0); obtain ⟨Ao164, co164, eo164⟩ := Kd.R_slice HO464.out; subst eo164) | (go_at_call 19; (with_reducible refine (impl_SixTone.calls kj29 _ _ t461 t462 t465 t466 t467 _ ?side1 ?side2 ?sideg A145.out).mono ?_); (case sideg => exact GLob.below HGL.out (xB HB.out)); (case side1 => exact xC ((Kd.R_reads' HO464.out).2.2)); (case side2 => exact (Kd.R_reads' HO464.out).2.1); rintro e w165 ⟨rfl, hb⟩; replace HO454 := Aside0.mk (Kd.R_below (xR HO454.out) hb); replace HO464 := Aside0.mk (Kd.R_below (xR HO464.out) hb); replace HB := Aside0.mk (below_step (xB HB.out) hb); (try clear hb); (try clear hb2); (try clear hk); (try clear hi)) | (go_at_call 20; (with_reducible refine (spec_SixTone.calls kj29 _ _ t461 t462 t468 t469 t470 _ ?side1 ?side2 A146.out).mono ?_); (case side1 => exact xC ((Kd.R_reads' HO464.out).2.2)); (case side2 => exact (Kd.R_reads' HO464.out).2.1); rintro e w166 ⟨rfl, hb⟩; replace HO454 := Aside0.mk (Kd.R_below (xR HO454.out) hb); replace HO464 := Aside0.mk (Kd.R_below (xR HO464.out) hb); replace HB := Aside0.mk (below_step (xB HB.out) hb); (try clear hb); (try clear hb2); (try clear hk); (try clear hi)) | (go_at_call 21; (with_reducible refine (spec_DrawToneOfPart.calls _ _ l1 t471 t472 t473 t474 _ ?side1 ?side2 A147.out).mono ?_); (case side1 => exact xC (Kd.C_below HR1.out HB.out)); (case side2 => exact HC1.out); rintro e w167 ⟨rfl, hb⟩; replace HO454 := Aside0.mk (Kd.R_below (xR HO454.out) hb); replace HO464 := Aside0.mk (Kd.R_below (xR HO464.out) hb); replace HB := Aside0.mk (below_step (xB HB.out) hb); (try clear hb); (try clear hb2); (try clear hk); (try clear hi)) | (go_at_call 22; (with_reducible refine (impl_ToneOfPart.calls kj29 t471 t472 t473 t474 t475 t476 _ ?sideg A148.out).mono ?_); (case sideg => exact GLob.below HGL.out (xB HB.out)); rintro e w168 ⟨v477, rfl, ho0, hb⟩; have HO478 := Aside0.mk (Kd.R_lower (Kd.R_new' (Kd.R_new' ho0 (Kd.R_lt (xR HO454.out))) (Kd.R_lt (xR HO464.out))) (below_size (xB HB.out))); replace HO454 := Aside0.mk (Kd.R_elder' (xR HO454.out) (Kd.R_base ho0) hb); replace HO464 := Aside0.mk (Kd.R_elder' (xR HO464.out) (Kd.R_base ho0) hb); replace HB := Aside0.mk (below_step (xB HB.out) hb); (try clear hb); (try clear hb2); (try clear hk); (try clear hi); (try clear ho0)) | (go_at_call 23; (with_reducible refine (spec_ToneOfPart.calls kj29 t471 t472 t473 t474 t479 t480 _ A149.out).mono ?_); rintro e w169 ⟨v481, rfl, ho0, hb⟩; have HO482 := Aside0.mk (Kd.R_lower (Kd.R_new' (Kd.R_new' (Kd.R_new' ho0 (Kd.R_lt (xR HO454.out))) (Kd.R_lt (xR HO464.out))) (Kd.R_lt (xR HO478.out))) (below_size (xB HB.out))); replace HO454 := Aside0.mk (Kd.R_elder' (xR HO454.out) (Kd.R_base ho0) hb); replace HO464 := Aside0.mk (Kd.R_elder' (xR HO464.out) (Kd.R_base ho0) hb); replace HO478 := Aside0.mk (Kd.R_elder' (xR HO478.out) (Kd.R_base ho0) hb); replace HB := Aside0.mk (below_step (xB HB.out) hb); (try clear hb); (try clear hb2); (try clear hk); (try clear hi); (try clear ho0)) | (go_at_call 24; (with_reducible refine (spec_DrawToneStates.calls kj29 _ _ l1 t483 t484 _ ?side1 ?side2 A150.out).mono ?_); (case side1 => exact xC (Kd.C_below HR1.out HB.out)); (case side2 => exact HC1.out); rintro e w170 ⟨v485, rfl, ho0, hb⟩; have HO486 := Aside0.mk (Kd.R_lower (Kd.R_new' (Kd.R_new' (Kd.R_new' (Kd.R_new' ho0 (Kd.R_lt (xR HO454.out))) (Kd.R_lt (xR HO464.out))) (Kd.R_lt (xR HO478.out))) (Kd.R_lt (xR HO482.out))) (below_size (xB HB.out))); replace HO454 := Aside0.mk (Kd.R_elder' (xR HO454.out) (Kd.R_base ho0) hb); replace HO464 := Aside0.mk (Kd.R_elder' (xR HO464.out) (Kd.R_base ho0) hb); replace HO478 := Aside0.mk (Kd.R_elder' (xR HO478.out) (Kd.R_base ho0) hb); replace HO482 := Aside0.mk (Kd.R_elder' (xR HO482.out) (Kd.R_base ho0) hb); replace HB := Aside0.mk (below_step (xB HB.out) hb); (try clear hb); (try clear hb2); (try clear hk); (try clear hi); (try clear ho0); obtain ⟨Ao171, co171, eo171⟩ := Kd.R_slice HO486.out; subst eo171) | (go_at_call 25; (with_reducible refine (impl_ToneStates.calls kj29 _ _ t483 t484 t487 t488 t489 _ ?side1 ?side2 A151.out).mono ?_); (case side1 => exact xC ((Kd.R_reads' HO486.out).2.2)); (case side2 => exact (Kd.R_reads' HO486.out).2.1); rintro e w' ⟨rfl, ⟨nd, rfl⟩⟩; (try exact xD)) | (go_at_call 26; (with_reducible refine (spec_ToneStates.calls kj29 _ _ t483 t484 t490 t491 t492 _ ?side1 ?side2 A152.out).mono ?_); (case side1 => exact xC ((Kd.R_reads' HO486.out).2.2)); (case side2 => exact (Kd.R_reads' HO486.out).2.1); rintro e w' ⟨rfl, ⟨nd, rfl⟩⟩; (try exact xD)) | (go_at_call 14; (with_reducible refine (impl_TonePower.calls kj29 _ _ t483 t484 t493 t494 _ ?side1 ?side2 A153.out).mono ?_); (case side1 => exact xC ((Kd.R_reads' HO486.out).2.2)); (case side2 => exact (Kd.R_reads' HO486.out).2.1); rintro e w' ⟨rfl, ⟨nd, rfl⟩⟩; (try exact xD)) | (go_at_call 27; (with_reducible refine (spec_TonePower.calls kj29 _ _ t483 t484 t495 t496 _ ?side1 ?side2 A154.out).mono ?_); (case side1 => exact xC ((Kd.R_reads' HO486.out).2.2)); (case side2 => exact (Kd.R_reads' HO486.out).2.1); rintro e w' ⟨rfl, ⟨nd, rfl⟩⟩; (try exact xD)) | (go_at_call 28; (with_reducible refine (spec_DrawStrongestPart.calls kj29 _ _ l1 t497 t498 _ ?side1 ?side2 A155.out).mono ?_); (case side1 => repeat (first | exact (Kd.C_below HR1.out (xB HB.out)) | (with_reducible refine Kd.C_alloc ?_ _) | (with_reducible refine Kd.C_drewN ?_ _) | (with_reducible refine Kd.C_drew ?_))); (case side2 => exact HC1.out); rintro e w172 ⟨v499, rfl, ho0, hb⟩; have HO500 := Aside0.mk (Kd.R_lower (Kd.R_new' (Kd.R_new' (Kd.R_new' (Kd.R_new' (Kd.R_new' ho0 (Kd.R_lt (xR HO454.out))) (Kd.R_lt (xR HO464.out))) (Kd.R_lt (xR HO478.out))) (Kd.R_lt (xR HO482.out))) (Kd.R_lt (xR HO486.out))) (below_size (xB HB.out))); replace HO454 := Aside0.mk (Kd.R_elder' (xR HO454.out) (Kd.R_base ho0) hb); replace HO464 := Aside0.mk (Kd.R_elder' (xR HO464.out) (Kd.R_base ho0) hb); replace HO478 := Aside0.mk (Kd.R_elder' (xR HO478.out) (Kd.R_base ho0) hb); replace HO482 := Aside0.mk (Kd.R_elder' (xR HO482.out) (Kd.R_base ho0) hb); replace HO486 := Aside0.mk (Kd.R_elder' (xR HO486.out) (Kd.R_base ho0) hb); replace HB := Aside0.mk (below_step (xB HB.out) hb); (try clear hb); (try clear hb2); (try clear hk); (try clear hi); (try clear ho0); obtain ⟨Ao173, co173, eo173⟩ := Kd.R_slice HO500.out; subst eo173) | (go_at_call 13; (with_reducible refine (impl_StrongestPart.calls kj29 _ _ t497 t498 t501 t502 _ ?side1 ?side2 ?sideg A156.out).mono ?_); (case sideg => exact GLob.below HGL.out (xB HB.out)); (case side1 => exact xC ((Kd.R_reads' HO500.out).2.2)); (case side2 => exact (Kd.R_reads' HO500.out).2.1); rintro e w174 ⟨rfl, hb⟩; replace HO454 := Aside0.mk (Kd.R_below (xR HO454.out) hb); replace HO464 := Aside0.mk (Kd.R_below (xR HO464.out) hb); replace HO478 := Aside0.mk (Kd.R_below (xR HO478.out) hb); replace HO482 := Aside0.mk (Kd.R_below (xR HO482.out) hb); replace HO486 := Aside0.mk (Kd.R_below (xR HO486.out) hb); replace HO500 := Aside0.mk (Kd.R_below (xR HO500.out) hb); replace HB := Aside0.mk (below_step (xB HB.out) hb); (try clear hb); (try clear hb2); (try clear hk); (try clear hi)) | (go_at_call 29; (with_reducible refine (spec_StrongestPart.calls kj29 _ _ t497 t498 t503 t504 _ ?side1 ?side2 A157.out).mono ?_); (case side1 => exact xC ((Kd.R_reads' HO500.out).2.2)); (case side2 => exact (Kd.R_reads' HO500.out).2.1); rintro e w175 ⟨rfl, hb⟩; replace HO454 := Aside0.mk (Kd.R_below (xR HO454.out) hb); replace HO464 := Aside0.mk (Kd.R_below (xR HO464.out) hb); replace HO478 := Aside0.mk (Kd.R_below (xR HO478.out) hb); replace HO482 := Aside0.mk (Kd.R_below (xR HO482.out) hb); replace HO486 := Aside0.mk (Kd.R_below (xR HO486.out) hb); replace HO500 := Aside0.mk (Kd.R_below (xR HO500.out) hb); replace HB := Aside0.mk (below_step (xB HB.out) hb); (try clear hb); (try clear hb2); (try clear hk); (try clear hi))); go_upto_region 66 with (first | (go_at_call 15; (with_reducible refine (spec_DrawFourTone.calls kj29 _ _ l1 t451 t452 _ ?side1 ?side2 A141.out).mono ?_); (case side1 => exact xC (Kd.C_below HR1.out HB.out)); (case side2 => exact HC1.out); rintro e w159 ⟨v453, rfl, ho0, hb⟩; have HO454 := Aside0.mk (Kd.R_lower ho0 (below_size (xB HB.out))); replace HB := Aside0.mk (below_step (xB HB.out) hb); (try clear hb); (try clear hb2); (try clear hk); (try clear hi); (try clear ho0); obtain ⟨Ao160, co160, eo160⟩ := Kd.R_slice HO454.out; subst eo160) | (go_at_call 16; (with_reducible refine (impl_FourTone.calls kj29 _ _ t451 t452 t455 t456 t457 _ ?side1 ?side2 ?sideg A142.out).mono ?_); (case sideg => exact GLob.below HGL.out (xB HB.out)); (case side1 => exact xC ((Kd.R_reads' HO454.out).2.2)); (case side2 => exact (Kd.R_reads' HO454.out).2.1); rintro e w161 ⟨rfl, hb⟩; replace HO454 := Aside0.mk (Kd.R_below (xR HO454.out) hb); replace HB := Aside0.mk (below_step (xB HB.out) hb); (try clear hb); (try clear hb2); (try clear hk); (try clear hi)) | (go_at_call 17; (with_reducible refine (spec_FourTone.calls kj29 _ _ t451 t452 t458 t459 t460 _ ?side1 ?side2 A143.out).mono ?_); (case side1 => exact xC ((Kd.R_reads' HO454.out).2.2)); (case side2 => exact (Kd.R_reads' HO454.out).2.1); rintro e w162 ⟨rfl, hb⟩; replace HO454 := Aside0.mk (Kd.R_below (xR HO454.out) hb); replace HB := Aside0.mk (below_step (xB HB.out) hb); (try clear hb); (try clear hb2); (try clear hk); (try clear hi)) | (go_at_call 18; (with_reducible refine (spec_DrawSixTone.calls kj29 _ _ l1 t461 t462 _ ?side1 ?side2 A144.out).mono ?_); (case side1 => exact xC (Kd.C_below HR1.out HB.out)); (case side2 => exact HC1.out); rintro e w163 ⟨v463, rfl, ho0, hb⟩; have HO464 := Aside0.mk (Kd.R_lower (Kd.R_new' ho0 (Kd.R_lt (xR HO454.out))) (below_size (xB HB.out))); replace HO454 := Aside0.mk (Kd.R_elder' (xR HO454.out) (Kd.R_base ho0) hb); replace HB := Aside0.mk (below_step (xB HB.out) hb); (try clear hb); (try clear hb2); (try clear hk); (try clear hi); (try clear ho0); obtain ⟨Ao164, co164, eo164⟩ := Kd.R_slice HO464.out; subst eo164) | (go_at_call 19; (with_reducible refine (impl_SixTone.calls kj29 _ _ t461 t462 t465 t466 t467 _ ?side1 ?side2 ?sideg A145.out).mono ?_); (case sideg => exact GLob.below HGL.out (xB HB.out)); (case side1 => exact xC ((Kd.R_reads' HO464.out).2.2)); (case side2 => exact (Kd.R_reads' HO464.out).2.1); rintro e w165 ⟨rfl, hb⟩; replace HO454 := Aside0.mk (Kd.R_below (xR HO454.out) hb); replace HO464 := Aside0.mk (Kd.R_below (xR HO464.out) hb); replace HB := Aside0.mk (below_step (xB HB.out) hb); (try clear hb); (try clear hb2); (try clear hk); (try clear hi)) | (go_at_call 20; (with_reducible refine (spec_SixTone.calls kj29 _ _ t461 t462 t468 t469 t470 _ ?side1 ?side2 A146.out).mono ?_); (case side1 => exact xC ((Kd.R_reads' HO464.out).2.2)); (case side2 => exact (Kd.R_reads' HO464.out).2.1); rintro e w166 ⟨rfl, hb⟩; replace HO454 := Aside0.mk (Kd.R_below (xR HO454.out) hb); replace HO464 := Aside0.mk (Kd.R_below (xR HO464.out) hb); replace HB := Aside0.mk (below_step (xB HB.out) hb); (try clear hb); (try clear hb2); (try clear hk); (try clear hi)) | (go_at_call 21; (with_reducible refine (spec_DrawToneOfPart.calls _ _ l1 t471 t472 t473 t474 _ ?side1 ?side2 A147.out).mono ?_); (case side1 => exact xC (Kd.C_below HR1.out HB.out)); (case side2 => exact HC1.out); rintro e w167 ⟨rfl, hb⟩; replace HO454 := Aside0.mk (Kd.R_below (xR HO454.out) hb); replace HO464 := Aside0.mk (Kd.R_below (xR HO464.out) hb); replace HB := Aside0.mk (below_step (xB HB.out) hb); (try clear hb); (try clear hb2); (try clear hk); (try clear hi)) | (go_at_call 22; (with_reducible refine (impl_ToneOfPart.calls kj29 t471 t472 t473 t474 t475 t476 _ ?sideg A148.out).mono ?_); (case sideg => exact GLob.below HGL.out (xB HB.out)); rintro e w168 ⟨v477, rfl, ho0, hb⟩; have HO478 := Aside0.mk (Kd.R_lower (Kd.R_new' (Kd.R_new' ho0 (Kd.R_lt (xR HO454.out))) (Kd.R_lt (xR HO464.out))) (below_size (xB HB.out))); replace HO454 := Aside0.mk (Kd.R_elder' (xR HO454.out) (Kd.R_base ho0) hb); replace HO464 := Aside0.mk (Kd.R_elder' (xR HO464.out) (Kd.R_base ho0) hb); replace HB := Aside0.mk (below_step (xB HB.out) hb); (try clear hb); (try clear hb2); (try clear hk); (try clear hi); (try clear ho0)) | (go_at_call 23; (with_reducible refine (spec_ToneOfPart.calls kj29 t471 t472 t473 t474 t479 t480 _ A149.out).mono ?_); rintro e w169 ⟨v481, rfl, ho0, hb⟩; have HO482 := Aside0.mk (Kd.R_lower (Kd.R_new' (Kd.R_new' (Kd.R_new' ho0 (Kd.R_lt (xR HO454.out))) (Kd.R_lt (xR HO464.out))) (Kd.R_lt (xR HO478.out))) (below_size (xB HB.out))); replace HO454 := Aside0.mk (Kd.R_elder' (xR HO454.out) (Kd.R_base ho0) hb); replace HO464 := Aside0.mk (Kd.R_elder' (xR HO464.out) (Kd.R_base ho0) hb); replace HO478 := Aside0.mk (Kd.R_elder' (xR HO478.out) (Kd.R_base ho0) hb); replace HB := Aside0.mk (below_step (xB HB.out) hb); (try clear hb); (try clear hb2); (try clear hk); (try clear hi); (try clear ho0)) | (go_at_call 24; (with_reducible refine (spec_DrawToneStates.calls kj29 _ _ l1 t483 t484 _ ?side1 ?side2 A150.out).mono ?_); (case side1 => exact xC (Kd.C_below HR1.out HB.out)); (case side2 => exact HC1.out); rintro e w170 ⟨v485, rfl, ho0, hb⟩; have HO486 := Aside0.mk (Kd.R_lower (Kd.R_new' (Kd.R_new' (Kd.R_new' (Kd.R_new' ho0 (Kd.R_lt (xR HO454.out))) (Kd.R_lt (xR HO464.out))) (Kd.R_lt (xR HO478.out))) (Kd.R_lt (xR HO482.out))) (below_size (xB HB.out))); replace HO454 := Aside0.mk (Kd.R_elder' (xR HO454.out) (Kd.R_base ho0) hb); replace HO464 := Aside0.mk (Kd.R_elder' (xR HO464.out) (Kd.R_base ho0) hb); replace HO478 := Aside0.mk (Kd.R_elder' (xR HO478.out) (Kd.R_base ho0) hb); replace HO482 := Aside0.mk (Kd.R_elder' (xR HO482.out) (Kd.R_base ho0) hb); replace HB := Aside0.mk (below_step (xB HB.out) hb); (try clear hb); (try clear hb2); (try clear hk); (try clear hi); (try clear ho0); obtain ⟨Ao171, co171, eo171⟩ := Kd.R_slice HO486.out; subst eo171) | (go_at_call 25; (with_reducible refine (impl_ToneStates.calls kj29 _ _ t483 t484 t487 t488 t489 _ ?side1 ?side2 A151.out).mono ?_); (case side1 => exact xC ((Kd.R_reads' HO486.out).2.2)); (case side2 => exact (Kd.R_reads' HO486.out).2.1); rintro e w' ⟨rfl, ⟨nd, rfl⟩⟩; (try exact xD)) | (go_at_call 26; (with_reducible refine (spec_ToneStates.calls kj29 _ _ t483 t484 t490 t491 t492 _ ?side1 ?side2 A152.out).mono ?_); (case side1 => exact xC ((Kd.R_reads' HO486.out).2.2)); (case side2 => exact (Kd.R_reads' HO486.out).2.1); rintro e w' ⟨rfl, ⟨nd, rfl⟩⟩; (try exact xD)) | (go_at_call 14; (with_reducible refine (impl_TonePower.calls kj29 _ _ t483 t484 t493 t494 _ ?side1 ?side2 A153.out).mono ?_); (case side1 => exact xC ((Kd.R_reads' HO486.out).2.2)); (case side2 => exact (Kd.R_reads' HO486.out).2.1); rintro e w' ⟨rfl, ⟨nd, rfl⟩⟩; (try exact xD)) | (go_at_call 27; (with_reducible refine (spec_TonePower.calls kj29 _ _ t483 t484 t495 t496 _ ?side1 ?side2 A154.out).mono ?_); (case side1 => exact xC ((Kd.R_reads' HO486.out).2.2)); (case side2 => exact (Kd.R_reads' HO486.out).2.1); rintro e w' ⟨rfl, ⟨nd, rfl⟩⟩; (try exact xD)) | (go_at_call 28; (with_reducible refine (spec_DrawStrongestPart.calls kj29 _ _ l1 t497 t498 _ ?side1 ?side2 A155.out).mono ?_); (case side1 => repeat (first | exact (Kd.C_below HR1.out (xB HB.out)) | (with_reducible refine Kd.C_alloc ?_ _) | (with_reducible refine Kd.C_drewN ?_ _) | (with_reducible refine Kd.C_drew ?_))); (case side2 => exact HC1.out); rintro e w172 ⟨v499, rfl, ho0, hb⟩; have HO500 := Aside0.mk (Kd.R_lower (Kd.R_new' (Kd.R_new' (Kd.R_new' (Kd.R_new' (Kd.R_new' ho0 (Kd.R_lt (xR HO454.out))) (Kd.R_lt (xR HO464.out))) (Kd.R_lt (xR HO478.out))) (Kd.R_lt (xR HO482.out))) (Kd.R_lt (xR HO486.out))) (below_size (xB HB.out))); replace HO454 := Aside0.mk (Kd.R_elder' (xR HO454.out) (Kd.R_base ho0) hb); replace HO464 := Aside0.mk (Kd.R_elder' (xR HO464.out) (Kd.R_base ho0) hb); replace HO478 := Aside0.mk (Kd.R_elder' (xR HO478.out) (Kd.R_base ho0) hb); replace HO482 := Aside0.mk (Kd.R_elder' (xR HO482.out) (Kd.R_base ho0) hb); replace HO486 := Aside0.mk (Kd.R_elder' (xR HO486.out) (Kd.R_base ho0) hb); replace HB := Aside0.mk (below_step (xB HB.out) hb); (try clear hb); (try clear hb2); (try clear hk); (try clear hi); (try clear ho0); obtain ⟨Ao173, co173, eo173⟩ := Kd.R_slice HO500.out; subst eo173) | (go_at_call 13; (with_reducible refine (impl_StrongestPart.calls kj29 _ _ t497 t498 t501 t502 _ ?side1 ?side2 ?sideg A156.out).mono ?_); (case sideg => exact GLob.below HGL.out (xB HB.out)); (case side1 => exact xC ((Kd.R_reads' HO500.out).2.2)); (case side2 => exact (Kd.R_reads' HO500.out).2.1); rintro e w174 ⟨rfl, hb⟩; replace HO454 := Aside0.mk (Kd.R_below (xR HO454.out) hb); replace HO464 := Aside0.mk (Kd.R_below (xR HO464.out) hb); replace HO478 := Aside0.mk (Kd.R_below (xR HO478.out) hb); replace HO482 := Aside0.mk (Kd.R_below (xR HO482.out) hb); replace HO486 := Aside0.mk (Kd.R_below (xR HO486.out) hb); replace HO500 := Aside0.mk (Kd.R_below (xR HO500.out) hb); replace HB := Aside0.mk (below_step (xB HB.out) hb); (try clear hb); (try clear hb2); (try clear hk); (try clear hi)) | (go_at_call 29; (with_reducible refine (spec_StrongestPart.calls kj29 _ _ t497 t498 t503 t504 _ ?side1 ?side2 A157.out).mono ?_); (case side1 => exact xC ((Kd.R_reads' HO500.out).2.2)); (case side2 => exact (Kd.R_reads' HO500.out).2.1); rintro e w175 ⟨rfl, hb⟩; replace HO454 := Aside0.mk (Kd.R_below (xR HO454.out) hb); replace HO464 := Aside0.mk (Kd.R_below (xR HO464.out) hb); replace HO478 := Aside0.mk (Kd.R_below (xR HO478.out) hb); replace HO482 := Aside0.mk (Kd.R_below (xR HO482.out) hb); replace HO486 := Aside0.mk (Kd.R_below (xR HO486.out) hb); replace HO500 := Aside0.mk (Kd.R_below (xR HO500.out) hb); replace HB := Aside0.mk (below_step (xB HB.out) hb); (try clear hb); (try clear hb2); (try clear hk); (try clear hi))))
     (try simp only [Act.put, List.setIfInBounds_toArray, List.set_cons_zero, List.set_cons_succ])
     go_cut [486] (fun v486 wc => ∃ (kq : Nat) (x486_157 : Bool), v486 = .bool x486_157 ∧ Aside0 (laws_FnTonesFound.j8 kq t471 t472 t473 t474 t475 t476 x486_157 = some r) ∧ Aside0 (kq ≤ kj29) ∧ Aside0 (Kd.R (Kd.int .i64) 3 wc w.heap.size (fun _ => True) v477 t475) ∧ Aside0 (Below w.heap.size w wc))
     case first => as_aux_lemma =>
      have H := HC158.out
      clear HC158
      by_cases c176 : (t457 != t460) = true
      ·rw [if_pos c176] at H; exact absurd H (by have hr_ := HRT.out; cases kj29 <;> simp [laws_FnTonesFound.j8, hr_])
      rw [if_neg c176] at H
      have c176b0 : (t457 != t460) = false := by simpa using c176
      (try (have c176b1 : decide (t457 = t460) = true := by simpa using c176))
      (try (have c176b2 : (t457 == t460) = true := by simpa using c176))
      clear c176
      (first | rw [c176b0] | (simp only [i64_w, i32_w]; rw [c176b0]) | skip)
      by_cases c177 : t455 = t458
      rotate_left
      ·rw [if_neg c177] at H; exact absurd H (by have hr_ := HRT.out; cases kj29 <;> simp [laws_FnTonesFound.j8, hr_])
      rw [if_pos c177] at H
      have c177b0 : (t455 == t458) = true := beq_iff_eq.mpr c177
      have c177b1 : (t455 != t458) = false := bne_eq_false_iff_eq.mpr c177
      clear c177
      by_cases c178 : t456 = t459
      rotate_left
      ·rw [if_neg c178] at H; exact absurd H (by have hr_ := HRT.out; cases kj29 <;> simp [laws_FnTonesFound.j8, hr_])
      rw [if_pos c178] at H
      have c178b0 : (t456 == t459) = true := beq_iff_eq.mpr c178
      have c178b1 : (t456 != t459) = false := bne_eq_false_iff_eq.mpr c178
      clear c178
      by_cases c179 : (t467 != t470) = true
      ·rw [if_pos c179] at H; exact absurd H (by have hr_ := HRT.out; cases kj29 <;> simp [laws_FnTonesFound.j8, hr_])
      rw [if_neg c179] at H
      have c179b0 : (t467 != t470) = false := by simpa using c179
      (try (have c179b1 : decide (t467 = t470) = true := by simpa using c179))
      (try (have c179b2 : (t467 == t470) = true := by simpa using c179))
      clear c179
      by_cases c180 : t465 = t468
      rotate_left
      ·rw [if_neg c180] at H; exact absurd H (by have hr_ := HRT.out; cases kj29 <;> simp [laws_FnTonesFound.j8, hr_])
      rw [if_pos c180] at H
      have c180b0 : (t465 == t468) = true := beq_iff_eq.mpr c180
      have c180b1 : (t465 != t468) = false := bne_eq_false_iff_eq.mpr c180
      clear c180
      by_cases c181 : t466 = t469
      rotate_left
      ·rw [if_neg c181] at H; exact absurd H (by have hr_ := HRT.out; cases kj29 <;> simp [laws_FnTonesFound.j8, hr_])
      rw [if_pos c181] at H
      have c181b0 : (t466 == t469) = true := beq_iff_eq.mpr c181
      have c181b1 : (t466 != t469) = false := bne_eq_false_iff_eq.mpr c181
      clear c181
      by_cases c182 : (t476 != t480) = true
      ·rw [if_pos c182] at H; exact absurd H (by have hr_ := HRT.out; cases kj29 <;> simp [laws_FnTonesFound.j8, hr_])
      rw [if_neg c182] at H
      have c182b0 : (t476 != t480) = false := by simpa using c182
      (try (have c182b1 : decide (t476 = t480) = true := by simpa using c182))
      (try (have c182b2 : (t476 == t480) = true := by simpa using c182))
      clear c182
      obtain ⟨t505, A183, H⟩ := xO H
      (try dsimp only at H)
      by_cases c184 : t505 = true
      rotate_left
      ·replace c184 := Bool.eq_false_iff.mpr c184; subst c184; exact absurd H (by have hr_ := HRT.out; cases kj29 <;> simp [laws_FnTonesFound.j8, hr_])
      subst c184
      rw [if_pos rfl] at H
      by_cases c185 : (t489 != t492) = true
      ·rw [if_pos c185] at H; exact absurd H (by have hr_ := HRT.out; cases kj29 <;> simp [laws_FnTonesFound.j8, hr_])
      rw [if_neg c185] at H
      have c185b0 : (t489 != t492) = false := by simpa using c185
      (try (have c185b1 : decide (t489 = t492) = true := by simpa using c185))
      (try (have c185b2 : (t489 == t492) = true := by simpa using c185))
      clear c185
      by_cases c186 : t487 = t490
      rotate_left
      ·rw [if_neg c186] at H; exact absurd H (by have hr_ := HRT.out; cases kj29 <;> simp [laws_FnTonesFound.j8, hr_])
      as_aux_lemma =>
       rw [if_pos c186] at H
       have c186b0 : (t487 == t490) = true := beq_iff_eq.mpr c186
       have c186b1 : (t487 != t490) = false := bne_eq_false_iff_eq.mpr c186
       clear c186
       by_cases c187 : t488 = t491
       rotate_left
       ·rw [if_neg c187] at H; exact absurd H (by have hr_ := HRT.out; cases kj29 <;> simp [laws_FnTonesFound.j8, hr_])
       rw [if_pos c187] at H
       have c187b0 : (t488 == t491) = true := beq_iff_eq.mpr c187
       have c187b1 : (t488 != t491) = false := bne_eq_false_iff_eq.mpr c187
       clear c187
       by_cases c188 : (t494 != t496) = true
       ·rw [if_pos c188] at H; exact absurd H (by have hr_ := HRT.out; cases kj29 <;> simp [laws_FnTonesFound.j8, hr_])
       rw [if_neg c188] at H
       have c188b0 : (t494 != t496) = false := by simpa using c188
       (try (have c188b1 : decide (t494 = t496) = true := by simpa using c188))
       (try (have c188b2 : (t494 == t496) = true := by simpa using c188))
       clear c188
       by_cases c189 : t493 = t495
       rotate_left
       ·rw [if_neg c189] at H; exact absurd H (by have hr_ := HRT.out; cases kj29 <;> simp [laws_FnTonesFound.j8, hr_])
       rw [if_pos c189] at H
       have c189b0 : (t493 == t495) = true := beq_iff_eq.mpr c189
       have c189b1 : (t493 != t495) = false := bne_eq_false_iff_eq.mpr c189
       clear c189
       by_cases c190 : (t502 != t504) = true
       ·rw [if_pos c190] at H; exact absurd H (by have hr_ := HRT.out; cases kj29 <;> simp [laws_FnTonesFound.j8, hr_])
       rw [if_neg c190] at H
       have c190b0 : (t502 != t504) = false := by simpa using c190
       (try (have c190b1 : decide (t502 = t504) = true := by simpa using c190))
       (try (have c190b2 : (t502 == t504) = true := by simpa using c190))
       clear c190
       have H' := Aside0.mk H
       clear H
       obtain ⟨Ao191, co191, eo191⟩ := Kd.R_slice HO478.out
       subst eo191
       obtain ⟨Ao192, co192, eo192⟩ := Kd.R_slice HO482.out
       subst eo192
       go_wp2_with (first | (go_at_call 11; (with_reducible refine (laws_uSame.calls kj29 _ _ t475 _ _ t479 true _ ?side1 ?side2 ?side3 ?side4 A183.out).mono ?_); (case side1 => exact xC ((Kd.R_reads' HO478.out).2.2)); (case side2 => exact (Kd.R_reads' HO478.out).2.1); (case side3 => exact xC ((Kd.R_reads' HO482.out).2.2)); (case side4 => exact (Kd.R_reads' HO482.out).2.1); rintro e w' ⟨rfl, ⟨nd, rfl⟩⟩; (try exact xD)))
       repeat (go_quiet (first | (go_at_call 11; (with_reducible refine (laws_uSame.calls kj29 _ _ t475 _ _ t479 true _ ?side1 ?side2 ?side3 ?side4 A183.out).mono ?_); (case side1 => exact xC ((Kd.R_reads' HO478.out).2.2)); (case side2 => exact (Kd.R_reads' HO478.out).2.1); (case side3 => exact xC ((Kd.R_reads' HO482.out).2.2)); (case side4 => exact (Kd.R_reads' HO482.out).2.1); rintro e w' ⟨rfl, ⟨nd, rfl⟩⟩; (try exact xD))); try go_wp2_with (first | (go_at_call 11; (with_reducible refine (laws_uSame.calls kj29 _ _ t475 _ _ t479 true _ ?side1 ?side2 ?side3 ?side4 A183.out).mono ?_); (case side1 => exact xC ((Kd.R_reads' HO478.out).2.2)); (case side2 => exact (Kd.R_reads' HO478.out).2.1); (case side3 => exact xC ((Kd.R_reads' HO482.out).2.2)); (case side4 => exact (Kd.R_reads' HO482.out).2.1); rintro e w' ⟨rfl, ⟨nd, rfl⟩⟩; (try exact xD))))
       go_meet
       case rel => exact ⟨_, ((t501 != t503)), (by first | rfl | (simp; done) | (simp [*]; done)), H', ⟨by have := HJ9.out; have := HJ29.out; first | omega | exact Nat.le_refl _⟩, ⟨by (with_reducible repeat (first | apply Kd.R_alloc | apply Kd.R_drewN | apply Kd.R_drew)); exact Kd.R_mono HO478.out (fun _ hk => trivial)⟩, ⟨xB HB.out⟩⟩
     case rest => as_aux_lemma =>
      clear HC158
      obtain ⟨kq, x486_157, rfl, HA, HJ157, HO_54, HB⟩ := hcut
      cases kq with
      | zero => exact absurd HA.out (by simp [laws_FnTonesFound.j8])
      | succ kj157 =>
       have H := HA.out
       clear HA
       simp only [laws_FnTonesFound.j8] at H
       by_cases c193 : x486_157 = true
       ·as_aux_lemma =>
         subst c193
         rw [if_pos rfl] at H
         exact absurd ((Option.some.inj H).trans HRT.out) (by decide)
       replace c193 := Bool.eq_false_iff.mpr c193
       subst c193
       rw [if_neg (show ¬ (false = true) by decide)] at H
       have HC194 := Aside0.mk H
       clear H
       go_upto_region 68 with (fail)
       repeat (go_quiet (fail); go_upto_region 68 with (fail))
       go_cut [511] (fun v511 wc => ∃ (kq : Nat) (x511_193 : Bool), v511 = .bool x511_193 ∧ Aside0 (laws_FnTonesFound.j9 kq t471 t472 t475 x511_193 = some r) ∧ Aside0 (kq ≤ kj157) ∧ Aside0 (Kd.R (Kd.int .i64) 3 wc w.heap.size (fun _ => True) v477 t475) ∧ Aside0 (Below w.heap.size w wc))
       case first => as_aux_lemma =>
        have H := HC194.out
        clear HC194
        by_cases c195 : t476 = true
        rotate_left
        ·as_aux_lemma =>
          replace c195 := Bool.eq_false_iff.mpr c195
          subst c195
          rw [if_neg (show ¬ (false = true) by decide)] at H
          have H' := Aside0.mk H
          clear H
          go_wp2
          repeat (go_quiet (fail); try go_wp2)
          go_meet
          case rel => exact ⟨_, (false), (by first | rfl | (simp; done) | (simp [*]; done)), H', ⟨by have := HJ9.out; have := HJ29.out; have := HJ157.out; first | omega | exact Nat.le_refl _⟩, ⟨xR HO_54.out⟩, ⟨xB HB.out⟩⟩
        subst c195
        rw [if_pos rfl] at H
        by_cases c196 : t474 > 0
        rotate_left
        ·as_aux_lemma =>
          rw [if_neg c196] at H
          have c196b0 : decide (0 < t474) = false := decide_eq_false c196
          clear c196
          (first | rw [c196b0] | (simp only [i64_w, i32_w]; rw [c196b0]) | skip)
          have H' := Aside0.mk H
          clear H
          go_wp2
          repeat (go_quiet (fail); try go_wp2)
          go_meet
          case rel => exact ⟨_, (false), (by first | rfl | (simp; done) | (simp [*]; done)), H', ⟨by have := HJ9.out; have := HJ29.out; have := HJ157.out; first | omega | exact Nat.le_refl _⟩, ⟨xR HO_54.out⟩, ⟨xB HB.out⟩⟩
        as_aux_lemma =>
         rw [if_pos c196] at H
         have c196b0 : decide (0 < t474) = true := decide_eq_true c196
         clear c196
         (first | rw [c196b0] | (simp only [i64_w, i32_w]; rw [c196b0]) | skip)
         by_cases c197 : t471 = 0
         ·rw [if_pos c197] at H
          exact absurd H (by simp)
         rw [if_neg c197] at H
         have c197b0 : (t471 == 0) = false := beq_eq_false_iff_ne.mpr c197
         have c197b1 : (t471 != 0) = true := bne_iff_ne.mpr c197
         by_cases c198 : (Int.tmod t474 t471) = 0
         rotate_left
         ·as_aux_lemma =>
            rw [if_neg c198] at H
            have c198b0 : ((Int.tmod t474 t471) == 0) = false := beq_eq_false_iff_ne.mpr c198
            have c198b1 : ((Int.tmod t474 t471) != 0) = true := bne_iff_ne.mpr c198
            have H' := Aside0.mk H
            clear H
            go_wp2
            repeat (go_quiet (fail); try go_wp2)
            go_meet
            case rel => exact ⟨_, (false), (by first | rfl | (simp; done) | (simp [*]; done)), H', ⟨by have := HJ9.out; have := HJ29.out; have := HJ157.out; first | omega | exact Nat.le_refl _⟩, ⟨xR HO_54.out⟩, ⟨xB HB.out⟩⟩
         rw [if_pos c198] at H
         have c198b0 : ((Int.tmod t474 t471) == 0) = true := beq_iff_eq.mpr c198
         have c198b1 : ((Int.tmod t474 t471) != 0) = false := bne_eq_false_iff_eq.mpr c198
         clear c198
         by_cases c199 : t473 > 0
         rotate_left
         ·as_aux_lemma =>
            rw [if_neg c199] at H
            have c199b0 : decide (0 < t473) = false := decide_eq_false c199
            clear c199
            have H' := Aside0.mk H
            clear H
            go_wp2
            repeat (go_quiet (fail); try go_wp2)
            go_meet
            case rel => exact ⟨_, (false), (by first | rfl | (simp; done) | (simp [*]; done)), H', ⟨by have := HJ9.out; have := HJ29.out; have := HJ157.out; first | omega | exact Nat.le_refl _⟩, ⟨xR HO_54.out⟩, ⟨xB HB.out⟩⟩
         rw [if_pos c199] at H
         have c199b0 : decide (0 < t473) = true := decide_eq_true c199
         clear c199
         by_cases c200 : t472 > 0
         rotate_left
         ·as_aux_lemma =>
            rw [if_neg c200] at H
            have c200b0 : decide (0 < t472) = false := decide_eq_false c200
            clear c200
            have H' := Aside0.mk H
            clear H
            go_wp2
            repeat (go_quiet (fail); try go_wp2)
            go_meet
            case rel => exact ⟨_, (false), (by first | rfl | (simp; done) | (simp [*]; done)), H', ⟨by have := HJ9.out; have := HJ29.out; have := HJ157.out; first | omega | exact Nat.le_refl _⟩, ⟨xR HO_54.out⟩, ⟨xB HB.out⟩⟩
         rw [if_pos c200] at H
         have c200b0 : decide (0 < t472) = true := decide_eq_true c200
         clear c200
         have H' := Aside0.mk H
         clear H
         go_wp2
         repeat (go_quiet (fail); try go_wp2)
         go_meet
         case rel => exact ⟨_, (decide ((wrap64 (2 * t472)) < t471)), (by first | rfl | (simp; done) | (simp [*]; done)), H', ⟨by have := HJ9.out; have := HJ29.out; have := HJ157.out; first | omega | exact Nat.le_refl _⟩, ⟨xR HO_54.out⟩, ⟨xB HB.out⟩⟩
       case rest => as_aux_lemma =>
        clear HC194
        try clear c193
        obtain ⟨kq, x511_193, rfl, HA, HJ193, HO_54, HB⟩ := hcut
        cases kq with
        | zero => exact absurd HA.out (by simp [laws_FnTonesFound.j9])
        | succ kj193 =>
         have H := HA.out
         clear HA
         simp only [laws_FnTonesFound.j9] at H
         by_cases c201 : x511_193 = true
         rotate_left
         ·as_aux_lemma =>
           replace c201 := Bool.eq_false_iff.mpr c201
           subst c201
           rw [if_neg (show ¬ (false = true) by decide)] at H
           obtain rfl := Option.some.inj H
           go_wp2
           repeat (go_quiet (fail); try go_wp2)
           go_ret
           exact ⟨by first | rfl | (simp [errW_none, errW_some] <;> rfl) | (simp [*, errW_none, errW_some] <;> rfl), xB HB.out⟩

         subst c201
         rw [if_pos rfl] at H
         replace H := Option.bind_eq_some_iff.mp H
         obtain ⟨⟨t506, t507⟩, A2020, H⟩ := H
         (try dsimp only at H)
         have A202 := Aside0.mk A2020
         clear A2020
         have HC203 := Aside0.mk H
         clear H
         obtain ⟨Ao204, co204, eo204⟩ := Kd.R_slice HO_54.out
         subst eo204
         go_upto_if 518 with (first | (go_at_call 7; (with_reducible refine (impl_FourPowers.calls kj193 _ _ t475 t506 t507 _ ?side1 ?side2 ?sideg A202.out).mono ?_); (case sideg => exact GLob.below HGL.out (xB HB.out)); (case side1 => exact xC ((Kd.R_reads' HO_54.out).2.2)); (case side2 => exact (Kd.R_reads' HO_54.out).2.1); rintro e w205 ⟨v508, rfl, ho0, hb⟩; have HO509 := Aside0.mk (Kd.R_lower (Kd.R_new' ho0 (Kd.R_lt (xR HO_54.out))) (below_size (xB HB.out))); replace HO_54 := Aside0.mk (Kd.R_elder' (xR HO_54.out) (Kd.R_base ho0) hb); replace HB := Aside0.mk (below_step (xB HB.out) hb); (try clear hb); (try clear hb2); (try clear hk); (try clear hi); (try clear ho0)))
         repeat (go_quiet (first | (go_at_call 7; (with_reducible refine (impl_FourPowers.calls kj193 _ _ t475 t506 t507 _ ?side1 ?side2 ?sideg A202.out).mono ?_); (case sideg => exact GLob.below HGL.out (xB HB.out)); (case side1 => exact xC ((Kd.R_reads' HO_54.out).2.2)); (case side2 => exact (Kd.R_reads' HO_54.out).2.1); rintro e w205 ⟨v508, rfl, ho0, hb⟩; have HO509 := Aside0.mk (Kd.R_lower (Kd.R_new' ho0 (Kd.R_lt (xR HO_54.out))) (below_size (xB HB.out))); replace HO_54 := Aside0.mk (Kd.R_elder' (xR HO_54.out) (Kd.R_base ho0) hb); replace HB := Aside0.mk (below_step (xB HB.out) hb); (try clear hb); (try clear hb2); (try clear hk); (try clear hi); (try clear ho0))); go_upto_if 518 with (first | (go_at_call 7; (with_reducible refine (impl_FourPowers.calls kj193 _ _ t475 t506 t507 _ ?side1 ?side2 ?sideg A202.out).mono ?_); (case sideg => exact GLob.below HGL.out (xB HB.out)); (case side1 => exact xC ((Kd.R_reads' HO_54.out).2.2)); (case side2 => exact (Kd.R_reads' HO_54.out).2.1); rintro e w205 ⟨v508, rfl, ho0, hb⟩; have HO509 := Aside0.mk (Kd.R_lower (Kd.R_new' ho0 (Kd.R_lt (xR HO_54.out))) (below_size (xB HB.out))); replace HO_54 := Aside0.mk (Kd.R_elder' (xR HO_54.out) (Kd.R_base ho0) hb); replace HB := Aside0.mk (below_step (xB HB.out) hb); (try clear hb); (try clear hb2); (try clear hk); (try clear hi); (try clear ho0))))
         (try simp only [Act.put, List.setIfInBounds_toArray, List.set_cons_zero, List.set_cons_succ])
         go_cut [76, 77] (fun v76 v77 wc => ∃ (kq : Nat) (x76_202 : List Int) (x77_202 : Bool), v77 = .bool x77_202 ∧ Aside0 (laws_FnTonesFound.j10 kq t471 t472 x76_202 x77_202 = some r) ∧ Aside0 (kq ≤ kj193) ∧ Aside0 (Kd.R (Kd.int .i64) 3 wc w.heap.size (fun _ => True) v76 x76_202) ∧ Aside0 (Below w.heap.size w wc))
         case first => as_aux_lemma =>
          have H := HC203.out
          clear HC203
          by_cases c206 : t471 = 6
          rotate_left
          ·as_aux_lemma =>
            rw [if_neg c206] at H
            have c206b0 : (t471 == 6) = false := beq_eq_false_iff_ne.mpr c206
            have c206b1 : (t471 != 6) = true := bne_iff_ne.mpr c206
            (first | rw [c206b0] | (simp only [i64_w, i32_w]; rw [c206b0]) | skip)
            have H' := Aside0.mk H
            clear H
            go_wp2
            repeat (go_quiet (fail); try go_wp2)
            go_meet
            case rel => exact ⟨_, (t506), (t507), (by first | rfl | (simp; done) | (simp [*]; done)), H', ⟨by have := HJ9.out; have := HJ29.out; have := HJ157.out; have := HJ193.out; first | omega | exact Nat.le_refl _⟩, ⟨by (with_reducible repeat (first | apply Kd.R_alloc | apply Kd.R_drewN | apply Kd.R_drew)); exact Kd.R_mono HO509.out (fun _ hk => trivial)⟩, ⟨xB HB.out⟩⟩
          as_aux_lemma =>
           rw [if_pos c206] at H
           have c206b0 : (t471 == 6) = true := beq_iff_eq.mpr c206
           have c206b1 : (t471 != 6) = false := bne_eq_false_iff_eq.mpr c206
           clear c206
           (first | rw [c206b0] | (simp only [i64_w, i32_w]; rw [c206b0]) | skip)
           replace H := Option.bind_eq_some_iff.mp H
           obtain ⟨⟨t510, t511⟩, A2070, H⟩ := H
           (try dsimp only at H)
           have A207 := Aside0.mk A2070
           clear A2070
           have H' := Aside0.mk H
           clear H
           go_wp2_with (first | (go_at_call 9; (with_reducible refine (impl_SixPowers.calls kj193 _ _ t475 t510 t511 _ ?side1 ?side2 ?sideg A207.out).mono ?_); (case sideg => exact GLob.below HGL.out (xB HB.out)); (case side1 => exact xC ((Kd.R_reads' HO_54.out).2.2)); (case side2 => exact (Kd.R_reads' HO_54.out).2.1); rintro e w208 ⟨v512, rfl, ho0, hb⟩; have HO513 := Aside0.mk (Kd.R_lower (Kd.R_new' (Kd.R_new' ho0 (Kd.R_lt (xR HO_54.out))) (Kd.R_lt (xR HO509.out))) (below_size (xB HB.out))); replace HO_54 := Aside0.mk (Kd.R_elder' (xR HO_54.out) (Kd.R_base ho0) hb); replace HO509 := Aside0.mk (Kd.R_elder' (xR HO509.out) (Kd.R_base ho0) hb); replace HB := Aside0.mk (below_step (xB HB.out) hb); (try clear hb); (try clear hb2); (try clear hk); (try clear hi); (try clear ho0)))
           repeat (go_quiet (first | (go_at_call 9; (with_reducible refine (impl_SixPowers.calls kj193 _ _ t475 t510 t511 _ ?side1 ?side2 ?sideg A207.out).mono ?_); (case sideg => exact GLob.below HGL.out (xB HB.out)); (case side1 => exact xC ((Kd.R_reads' HO_54.out).2.2)); (case side2 => exact (Kd.R_reads' HO_54.out).2.1); rintro e w208 ⟨v512, rfl, ho0, hb⟩; have HO513 := Aside0.mk (Kd.R_lower (Kd.R_new' (Kd.R_new' ho0 (Kd.R_lt (xR HO_54.out))) (Kd.R_lt (xR HO509.out))) (below_size (xB HB.out))); replace HO_54 := Aside0.mk (Kd.R_elder' (xR HO_54.out) (Kd.R_base ho0) hb); replace HO509 := Aside0.mk (Kd.R_elder' (xR HO509.out) (Kd.R_base ho0) hb); replace HB := Aside0.mk (below_step (xB HB.out) hb); (try clear hb); (try clear hb2); (try clear hk); (try clear hi); (try clear ho0))); try go_wp2_with (first | (go_at_call 9; (with_reducible refine (impl_SixPowers.calls kj193 _ _ t475 t510 t511 _ ?side1 ?side2 ?sideg A207.out).mono ?_); (case sideg => exact GLob.below HGL.out (xB HB.out)); (case side1 => exact xC ((Kd.R_reads' HO_54.out).2.2)); (case side2 => exact (Kd.R_reads' HO_54.out).2.1); rintro e w208 ⟨v512, rfl, ho0, hb⟩; have HO513 := Aside0.mk (Kd.R_lower (Kd.R_new' (Kd.R_new' ho0 (Kd.R_lt (xR HO_54.out))) (Kd.R_lt (xR HO509.out))) (below_size (xB HB.out))); replace HO_54 := Aside0.mk (Kd.R_elder' (xR HO_54.out) (Kd.R_base ho0) hb); replace HO509 := Aside0.mk (Kd.R_elder' (xR HO509.out) (Kd.R_base ho0) hb); replace HB := Aside0.mk (below_step (xB HB.out) hb); (try clear hb); (try clear hb2); (try clear hk); (try clear hi); (try clear ho0))))
           go_meet
           case rel => exact ⟨_, (t510), (t511), (by first | rfl | (simp; done) | (simp [*]; done)), H', ⟨by have := HJ9.out; have := HJ29.out; have := HJ157.out; have := HJ193.out; first | omega | exact Nat.le_refl _⟩, ⟨by (with_reducible repeat (first | apply Kd.R_alloc | apply Kd.R_drewN | apply Kd.R_drew)); exact Kd.R_mono HO513.out (fun _ hk => trivial)⟩, ⟨xB HB.out⟩⟩
         case rest => as_aux_lemma =>
          clear HC203
          try clear c201
          obtain ⟨kq, x76_202, x77_202, rfl, HA, HJ202, HO_76, HB⟩ := hcut
          cases kq with
          | zero => exact absurd HA.out (by simp [laws_FnTonesFound.j10])
          | succ kj202 =>
           have H := HA.out
           clear HA
           simp only [laws_FnTonesFound.j10] at H
           by_cases c209 : x77_202 = true
           rotate_left
           ·as_aux_lemma =>
             replace c209 := Bool.eq_false_iff.mpr c209
             subst c209
             rw [if_neg (show ¬ (false = true) by decide)] at H
             exact absurd ((Option.some.inj H).trans HRT.out) (by decide)
           subst c209
           rw [if_pos rfl] at H
           have H' := Aside0.mk H
           clear H
           obtain ⟨Ao210, co210, eo210⟩ := Kd.R_slice HO_76.out
           subst eo210
           go_wp2
           repeat (go_quiet (fail); try go_wp2)
           go_loopg [528] kj202 (fun kq v528 w' => ∃ (x528_6 : Int), v528 = .int .i64 x528_6 ∧ Aside0 (laws_FnTonesFound.l4 kq t471 t472 x76_202 (x76_202.length : Int) x528_6 = some r) ∧ Aside0 (kq ≤ kj202) ∧ Aside0 (Kd.R (Kd.int .i64) 3 w' w.heap.size (fun _ => True) (.slice Ao210 x76_202.length co210) x76_202) ∧ Aside0 (Below w.heap.size w w'))
           case atStart => exact ⟨(0), (by first | rfl | (simp; done) | (simp [*]; done)), H', ⟨Nat.le_refl _⟩, ⟨xR HO_76.out⟩, ⟨xB HB.out⟩⟩
           case round =>
            clear H'
            try clear c209
            obtain ⟨x528_6, rfl, HA, HK6, HO_526, HB⟩ := hrel
            cases gk with
            | zero => exact absurd HA.out (by simp [laws_FnTonesFound.l4])
            | succ k6 =>
             have H := HA.out
             clear HA
             simp only [laws_FnTonesFound.l4] at H
             by_cases c211 : x528_6 < (x76_202.length : Int)
             rotate_left
             ·as_aux_lemma =>
               rw [if_neg c211] at H
               have c211b0 : decide (x528_6 < (x76_202.length : Int)) = false := decide_eq_false c211
               clear c211
               obtain rfl := Option.some.inj H
               go_wp2
               repeat (go_quiet (fail); try go_wp2)
               go_ret
               exact ⟨by first | rfl | (simp [errW_none, errW_some] <;> rfl) | (simp [*, errW_none, errW_some] <;> rfl), xB HB.out⟩
             rw [if_pos c211] at H
             have c211b0 : decide (x528_6 < (x76_202.length : Int)) = true := decide_eq_true c211
             clear c211
             by_cases c212 : 0 ≤ x528_6
             rotate_left
             ·rw [if_neg c212] at H
              exact absurd H (by simp)
             rw [if_pos c212] at H
             have c212b0 : decide (0 ≤ x528_6) = true := decide_eq_true c212
             clear c212
             by_cases c213 : x528_6 < (x76_202.length : Int)
             rotate_left
             ·rw [if_neg c213] at H
              exact absurd H (by simp)
             rw [if_pos c213] at H
             have c213b0 : decide (x528_6 < (x76_202.length : Int)) = true := decide_eq_true c213
             clear c213
             by_cases c214 : x528_6 = t472
             rotate_left
             ·as_aux_lemma =>
               rw [if_neg c214] at H
               have c214b0 : (x528_6 == t472) = false := beq_eq_false_iff_ne.mpr c214
               have c214b1 : (x528_6 != t472) = true := bne_iff_ne.mpr c214
               by_cases c216 : (((rd x76_202 x528_6) != 0) != (x528_6 == (wrap64 (t471 - t472)))) = true
               ·rw [if_pos c216] at H
                have c216b0 : (((rd x76_202 x528_6) != 0) != (x528_6 == (wrap64 (t471 - t472)))) = true := c216
                (try (have c216b1 : decide (((rd x76_202 x528_6) != 0) = (x528_6 == (wrap64 (t471 - t472)))) = false := by simpa using c216))
                (try (have c216b2 : (((rd x76_202 x528_6) != 0) == (x528_6 == (wrap64 (t471 - t472)))) = false := by simpa using c216))
                (try (have c216b3 : ¬ (((rd x76_202 x528_6) != 0) = (x528_6 == (wrap64 (t471 - t472)))) := by simpa using c216))
                clear c216
                exact absurd ((Option.some.inj H).trans HRT.out) (by decide)
               rw [if_neg c216] at H
               have c216b0 : (((rd x76_202 x528_6) != 0) != (x528_6 == (wrap64 (t471 - t472)))) = false := by simpa using c216
               (try (have c216b1 : decide (((rd x76_202 x528_6) != 0) = (x528_6 == (wrap64 (t471 - t472)))) = true := by simpa using c216))
               (try (have c216b2 : (((rd x76_202 x528_6) != 0) == (x528_6 == (wrap64 (t471 - t472)))) = true := by simpa using c216))
               clear c216
               have H' := Aside0.mk H
               clear H
               have p514 : 0 ≤ (x528_6 : Int) := of_decide_eq_true (by first | (with_reducible assumption) | assumption)
               have q514 : x528_6 < (x76_202.length : Int) := of_decide_eq_true (by first | (with_reducible assumption) | assumption)
               obtain ⟨ad514, e514, hx514_0⟩ := Kd.at_int (Kd.R_reads' HO_526.out).2.2 x528_6 p514 q514
               cases e514
               replace p514 := eq_true p514
               replace q514 := eq_true q514
               go_wp2
               repeat (go_quiet (fail); try go_wp2)
               go_roundg k6
               case measure => have := HJ9.out; have := HJ29.out; have := HJ157.out; have := HJ193.out; have := HJ202.out; have := HK6.out; omega
               case rel => exact ⟨(wrap64 (x528_6 + 1)), (by first | rfl | (simp; done) | (simp [*]; done)), H', ⟨by have := HJ9.out; have := HJ29.out; have := HJ157.out; have := HJ193.out; have := HJ202.out; have := HK6.out; omega⟩, ⟨xR HO_526.out⟩, ⟨xB HB.out⟩⟩
             as_aux_lemma =>
              rw [if_pos c214] at H
              have c214b0 : (x528_6 == t472) = true := beq_iff_eq.mpr c214
              have c214b1 : (x528_6 != t472) = false := bne_eq_false_iff_eq.mpr c214
              clear c214
              by_cases c215 : (((rd x76_202 x528_6) != 0) != true) = true
              ·rw [if_pos c215] at H
               have c215b0 : (((rd x76_202 x528_6) != 0) != true) = true := c215
               (try (have c215b1 : decide (((rd x76_202 x528_6) != 0) = true) = false := by simpa using c215))
               (try (have c215b2 : (((rd x76_202 x528_6) != 0) == true) = false := by simpa using c215))
               (try (have c215b3 : ¬ (((rd x76_202 x528_6) != 0) = true) := by simpa using c215))
               clear c215
               exact absurd ((Option.some.inj H).trans HRT.out) (by decide)
              rw [if_neg c215] at H
              have c215b0 : (((rd x76_202 x528_6) != 0) != true) = false := by simpa using c215
              (try (have c215b1 : decide (((rd x76_202 x528_6) != 0) = true) = true := by simpa using c215))
              (try (have c215b2 : (((rd x76_202 x528_6) != 0) == true) = true := by simpa using c215))
              clear c215
              have H' := Aside0.mk H
              clear H
              have p514 : 0 ≤ (x528_6 : Int) := of_decide_eq_true (by first | (with_reducible assumption) | assumption)
              have q514 : x528_6 < (x76_202.length : Int) := of_decide_eq_true (by first | (with_reducible assumption) | assumption)
              obtain ⟨ad514, e514, hx514_0⟩ := Kd.at_int (Kd.R_reads' HO_526.out).2.2 x528_6 p514 q514
              cases e514
              replace p514 := eq_true p514
              replace q514 := eq_true q514
              go_wp2
              repeat (go_quiet (fail); try go_wp2)
              go_roundg k6
              case measure => have := HJ9.out; have := HJ29.out; have := HJ157.out; have := HJ193.out; have := HJ202.out; have := HK6.out; omega
              case rel => exact ⟨(wrap64 (x528_6 + 1)), (by first | rfl | (simp; done) | (simp [*]; done)), H', ⟨by have := HJ9.out; have := HJ29.out; have := HJ157.out; have := HJ193.out; have := HJ202.out; have := HK6.out; omega⟩, ⟨xR HO_526.out⟩, ⟨xB HB.out⟩⟩
/-- THE ONE PURE STATEMENT of laws_FnTonesFound: yours. -/
def laws_FnTonesFound.Pure : Prop := ∀ (l0 : List Int) (l1 : List Int), l0.length ≤ maxLen → l0.length * 1 ≤ 140737488351232 → (∀ x ∈ l0, (Lit.int .u8 x).wf = true) → l1.length ≤ maxLen → l1.length * 1 ≤ 140737488351232 → (∀ x ∈ l1, (Lit.int .u8 x).wf = true) → ∃ k, laws_FnTonesFound.f k l0 l1 = some true
theorem laws_FnTonesFound.walk (P : laws_FnTonesFound.Pure) (a0 : Option Addr) (len0 cap0 : Nat) (z0 : List Int) (a1 : Option Addr) (len1 cap1 : Nat) (z1 : List Int) (w : World) (hgl_ : GLob w) (w0 : (a0 = none ∧ len0 = 0 ∧ cap0 = 0 ∧ z0 = []) ∨ ∃ x, a0 = some x ∧ len0 ≤ cap0 ∧ cap0 ≤ maxLen ∧ z0.length = cap0 ∧ (∀ i, i < z0.length → w.cell? (x.add i) = some (.int .u8 (z0.getD i 0))) ∧ ∀ n ∈ z0, (Lit.int .u8 n).wf = true) (y0 : len0 * 1 ≤ 140737488351232) (w1 : (a1 = none ∧ len1 = 0 ∧ cap1 = 0 ∧ z1 = []) ∨ ∃ x, a1 = some x ∧ len1 ≤ cap1 ∧ cap1 ≤ maxLen ∧ z1.length = cap1 ∧ (∀ i, i < z1.length → w.cell? (x.add i) = some (.int .u8 (z1.getD i 0))) ∧ ∀ n ∈ z1, (Lit.int .u8 n).wf = true) (y1 : len1 * 1 ≤ 140737488351232) :
  Calls Tryd.prog 3 #[.slice a0 len0 cap0, .slice a1 len1 cap1] w fun e w' => e = .returned (.bool true) ∧ Below w.heap.size w w' := by
 obtain ⟨l0, rfl, hr0, hm0, hw0, hc0⟩ := ReadsInt.ofRowC w0
 obtain ⟨l1, rfl, hr1, hm1, hw1, hc1⟩ := ReadsInt.ofRowC w1
 obtain ⟨k, h⟩ := P l0 l1 hm0 y0 hw0 hm1 y1 hw1
 refine (laws_FnTonesFound.calls k _ _ l0 _ _ l1 true w (Kd.C_of_reads (d := (0 : Int)) (h1 := fun _ => rfl) hr0) hc0 (Kd.C_of_reads (d := (0 : Int)) (h1 := fun _ => rfl) hr1) hc1 hgl_ h rfl).mono ?_
 rintro e w' ⟨rfl, hd⟩
 exact ⟨rfl, hd⟩

end Go.Proofs.YtjplcongellcmaaDoor.PFnTonesFound
