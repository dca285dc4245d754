/- What each Go function that the statement FnSumsUndone reaches answers, proved call by call. No condition beyond those that the theorems print. (Written by wip/tools/xprint.py of this repo, over the kit's print.) -/
import Derived.Test.YtjplcongellcmaaPFnSumsUndonex0
import Derived.Test.YtjplcongellcmaaPFnSumsUndonex1
import Derived.Test.YtjplcongellcmaaPFnSumsUndonex2
import Derived.Test.YtjplcongellcmaaPFnSumsUndonex3
import Derived.Test.YtjplcongellcmaaPFnSumsUndonex4
import Derived.Test.YtjplcongellcmaaPFnSumsUndonex5
import Derived.Test.YtjplcongellcmaaPFnSumsUndonex6
import Derived.Test.YtjplcongellcmaaPFnSumsUndonex7
import Derived.Test.YtjplcongellcmaaPFnSumsUndonex8
import Derived.Test.YtjplcongellcmaaPFnSumsUndonex9
import Derived.Test.YtjplcongellcmaaPFnSumsUndonex10
import Derived.Test.YtjplcongellcmaaPFnSumsUndonex11
import Derived.Test.YtjplcongellcmaaPFnSumsUndonex12
import Derived.Test.YtjplcongellcmaaPFnSumsUndonex13
namespace Go.Proofs.Ytjplcongellcmaa.PFnSumsUndone
open Go.RowKit Go.Proofs.YtjplcongellcmaaW.PrintWords Go.Proofs.YtjplcongellcmaaW.PrintLast Go.Proofs.YtjplcongellcmaaW.PrintMore
attribute [local go_sem] max2_int min2_int max_two min_two max_three min_three max_four min_four   -- for this text's walks alone
set_option linter.unusedVariables false
set_option linter.unusedSimpArgs false

set_option maxHeartbeats 200000000 in
set_option maxRecDepth 100000 in
theorem laws_FnSumsUndone.calls (k : Nat) (A0 : Option Addr) (c0 : Nat) (l0 : List Int) (A1 : Option Addr) (c1 : Nat) (l1 : List Int) (r : Bool) (w : World) (hr0 : Kd.C (Kd.int .u8) w A0 l0.length l0) (hc0 : l0.length ≤ c0) (hr1 : Kd.C (Kd.int .u8) w A1 l1.length l1) (hc1 : l1.length ≤ c1) (h : laws_FnSumsUndone.f k l0 l1 = some r) (hr_ : r = true) :
  Calls Try.prog 12 #[.slice A0 l0.length c0, .slice A1 l1.length c1] w fun e w' => e = .returned (.bool r) ∧ Below w.heap.size w w' := by
 have HRT := Aside0.mk hr_
 clear hr_
 have HR0 := Aside0.mk hr0
 have HC0 := Aside0.mk hc0
 clear hr0 hc0
 have HR1 := Aside0.mk hr1
 have HC1 := Aside0.mk hc1
 clear hr1 hc1
 have HB := Aside0.mk (Below.refl w.heap.size w)
 have H : ((laws_big.f l0 l1).bind fun t580 => (if t580 = true then (some true) else ((spec_DrawWrappedSums.f k l0).bind fun bt581 => ((impl_WrappedSums.f k bt581.1 bt581.2.1 bt581.2.2).bind fun bt586 => ((spec_WrappedSums.f k bt581.1 bt581.2.1 bt581.2.2).bind fun bt590 => ((impl_WrappedCombs.f k bt581.1 bt581.2.1 bt581.2.2).bind fun bt594 => ((spec_WrappedCombs.f k bt581.1 bt581.2.1 bt581.2.2).bind fun bt598 => ((impl_CountWraps.f k bt581.1 bt581.2.1 bt581.2.2).bind fun bt602 => ((spec_CountWraps.f k bt581.1 bt581.2.1 bt581.2.2).bind fun bt604 => (if (bt586.2 != bt590.2) = true then (laws_FnSumsUndone.j0 k l1 bt581.1 bt581.2.1 bt581.2.2 bt586.1 bt586.2 bt594.1 bt602.1 true) else ((laws_iSame.f k bt586.1 bt590.1).bind fun t606 => (if t606 = true then (if (bt594.2 != bt598.2) = true then (laws_FnSumsUndone.j0 k l1 bt581.1 bt581.2.1 bt581.2.2 bt586.1 bt586.2 bt594.1 bt602.1 true) else ((laws_iSame.f k bt594.1 bt598.1).bind fun t607 => (if t607 = true then (if (bt602.2 != bt604.2) = true then (laws_FnSumsUndone.j0 k l1 bt581.1 bt581.2.1 bt581.2.2 bt586.1 bt586.2 bt594.1 bt602.1 true) else (if bt602.1 = bt604.1 then (if (bt594.2 != bt586.2) = true then (laws_FnSumsUndone.j0 k l1 bt581.1 bt581.2.1 bt581.2.2 bt586.1 bt586.2 bt594.1 bt602.1 true) else (laws_FnSumsUndone.j0 k l1 bt581.1 bt581.2.1 bt581.2.2 bt586.1 bt586.2 bt594.1 bt602.1 (bt602.2 != bt586.2))) else (laws_FnSumsUndone.j0 k l1 bt581.1 bt581.2.1 bt581.2.2 bt586.1 bt586.2 bt594.1 bt602.1 true))) else (laws_FnSumsUndone.j0 k l1 bt581.1 bt581.2.1 bt581.2.2 bt586.1 bt586.2 bt594.1 bt602.1 true)))) else (laws_FnSumsUndone.j0 k l1 bt581.1 bt581.2.1 bt581.2.2 bt586.1 bt586.2 bt594.1 bt602.1 true))))))))))))) = some r := h
 clear h
 replace H := Option.bind_eq_some_iff.mp H
 obtain ⟨t580, A30, H⟩ := H
 (try dsimp only at H)
 have A3 := Aside0.mk A30
 clear A30
 by_cases c4 : t580 = true
 ·as_aux_lemma =>
   subst c4
   have H1 := H
   rw [if_pos rfl] at H1
   clear H
   have H := H1
   clear H1
   obtain rfl := Option.some.inj H
   go_enter Try.func12, Try.ntmps12
   go_wp2_with (first | (go_at_call 13; (with_reducible refine (laws_big.calls _ _ l0 _ _ l1 true _ ?side1 ?side2 ?side3 ?side4 A3.out).mono ?_); (case side1 => exact xC HR0.out); (case side2 => exact HC0.out); (case side3 => exact xC HR1.out); (case side4 => exact HC1.out); rintro e w' ⟨rfl, ⟨nd, rfl⟩⟩; (try exact xD)))
   repeat (go_quiet (first | (go_at_call 13; (with_reducible refine (laws_big.calls _ _ l0 _ _ l1 true _ ?side1 ?side2 ?side3 ?side4 A3.out).mono ?_); (case side1 => exact xC HR0.out); (case side2 => exact HC0.out); (case side3 => exact xC HR1.out); (case side4 => exact HC1.out); rintro e w' ⟨rfl, ⟨nd, rfl⟩⟩; (try exact xD))); try go_wp2_with (first | (go_at_call 13; (with_reducible refine (laws_big.calls _ _ l0 _ _ l1 true _ ?side1 ?side2 ?side3 ?side4 A3.out).mono ?_); (case side1 => exact xC HR0.out); (case side2 => exact HC0.out); (case side3 => exact xC HR1.out); (case side4 => exact HC1.out); rintro e w' ⟨rfl, ⟨nd, rfl⟩⟩; (try exact xD))))
   go_ret
   exact ⟨by first | rfl | (simp [errW_none, errW_some] <;> rfl) | (simp [*, errW_none, errW_some] <;> rfl), xB HB.out⟩
 replace c4 := Bool.eq_false_iff.mpr c4
 subst c4
 have H1 := H
 rw [if_neg (show ¬ (false = true) by decide)] at H1
 clear H
 have H := H1
 clear H1
 replace H := Option.bind_eq_some_iff.mp H
 obtain ⟨⟨t581, t582, t583⟩, A50, H⟩ := H
 (try dsimp only at H)
 have A5 := Aside0.mk A50
 clear A50
 replace H := Option.bind_eq_some_iff.mp H
 obtain ⟨⟨t586, t587⟩, A60, H⟩ := H
 (try dsimp only at H)
 have A6 := Aside0.mk A60
 clear A60
 replace H := Option.bind_eq_some_iff.mp H
 obtain ⟨⟨t590, t591⟩, A70, H⟩ := H
 (try dsimp only at H)
 have A7 := Aside0.mk A70
 clear A70
 replace H := Option.bind_eq_some_iff.mp H
 obtain ⟨⟨t594, t595⟩, A80, H⟩ := H
 (try dsimp only at H)
 have A8 := Aside0.mk A80
 clear A80
 replace H := Option.bind_eq_some_iff.mp H
 obtain ⟨⟨t598, t599⟩, A90, H⟩ := H
 (try dsimp only at H)
 have A9 := Aside0.mk A90
 clear A90
 replace H := Option.bind_eq_some_iff.mp H
 obtain ⟨⟨t602, t603⟩, A100, H⟩ := H
 (try dsimp only at H)
 have A10 := Aside0.mk A100
 clear A100
 replace H := Option.bind_eq_some_iff.mp H
 obtain ⟨⟨t604, t605⟩, A110, H⟩ := H
 (try dsimp only at H)
 have A11 := Aside0.mk A110
 clear A110
 have HC12 := Aside0.mk H
 clear H
 go_enter Try.func12, Try.ntmps12
 go_upto_region 10 with (first | (go_at_call 13; (with_reducible refine (laws_big.calls _ _ l0 _ _ l1 false _ ?side1 ?side2 ?side3 ?side4 A3.out).mono ?_); (case side1 => exact xC HR0.out); (case side2 => exact HC0.out); (case side3 => exact xC HR1.out); (case side4 => exact HC1.out); rintro e w' ⟨rfl, ⟨nd, rfl⟩⟩; (try exact xD)) | (go_at_call 188; (with_reducible refine (spec_DrawWrappedSums.calls k _ _ l0 t581 t582 t583 _ ?side1 ?side2 A5.out).mono ?_); (case side1 => exact xC HR0.out); (case side2 => exact HC0.out); rintro e w13 ⟨v584, rfl, ho0, hb⟩; have n0_ := Aside0.mk (Kd.R_lower ho0 (below_size (xB HB.out))); have n1_ := Aside0.mk (below_step (xB HB.out) hb); clear HB; have HO585 := n0_; have HB := n1_; clear n0_ n1_; (try clear hb); (try clear hb2); (try clear hk); (try clear hi); (try clear ho0); obtain ⟨Ao14, co14, eo14⟩ := Kd.R_slice HO585.out; subst eo14) | (go_at_call 189; (with_reducible refine (impl_WrappedSums.calls k _ _ t581 t582 t583 t586 t587 _ ?side1 ?side2 A6.out).mono ?_); (case side1 => exact xC ((Kd.R_reads' HO585.out).2.2)); (case side2 => exact (Kd.R_reads' HO585.out).2.1); rintro e w15 ⟨v588, rfl, ho0, hb⟩; have n0_ := Aside0.mk (Kd.R_elder' (xR HO585.out) (Kd.R_base ho0) hb); have n1_ := Aside0.mk (Kd.R_lower (Kd.R_new' ho0 (Kd.R_lt (xR HO585.out))) (below_size (xB HB.out))); have n2_ := Aside0.mk (below_step (xB HB.out) hb); clear HO585; clear HB; have HO585 := n0_; have HO589 := n1_; have HB := n2_; clear n0_ n1_ n2_; (try clear hb); (try clear hb2); (try clear hk); (try clear hi); (try clear ho0)) | (go_at_call 190; (with_reducible refine (spec_WrappedSums.calls k _ _ t581 t582 t583 t590 t591 _ ?side1 ?side2 A7.out).mono ?_); (case side1 => exact xC ((Kd.R_reads' HO585.out).2.2)); (case side2 => exact (Kd.R_reads' HO585.out).2.1); rintro e w16 ⟨v592, rfl, ho0, hb⟩; have n0_ := Aside0.mk (Kd.R_elder' (xR HO585.out) (Kd.R_base ho0) hb); have n1_ := Aside0.mk (Kd.R_elder' (xR HO589.out) (Kd.R_base ho0) hb); have n2_ := Aside0.mk (Kd.R_lower (Kd.R_new' (Kd.R_new' ho0 (Kd.R_lt (xR HO585.out))) (Kd.R_lt (xR HO589.out))) (below_size (xB HB.out))); have n3_ := Aside0.mk (below_step (xB HB.out) hb); clear HO585; clear HO589; clear HB; have HO585 := n0_; have HO589 := n1_; have HO593 := n2_; have HB := n3_; clear n0_ n1_ n2_ n3_; (try clear hb); (try clear hb2); (try clear hk); (try clear hi); (try clear ho0)) | (go_at_call 191; (with_reducible refine (impl_WrappedCombs.calls k _ _ t581 t582 t583 t594 t595 _ ?side1 ?side2 A8.out).mono ?_); (case side1 => exact xC ((Kd.R_reads' HO585.out).2.2)); (case side2 => exact (Kd.R_reads' HO585.out).2.1); rintro e w17 ⟨v596, rfl, ho0, hb⟩; have n0_ := Aside0.mk (Kd.R_elder' (xR HO585.out) (Kd.R_base ho0) hb); have n1_ := Aside0.mk (Kd.R_elder' (xR HO589.out) (Kd.R_base ho0) hb); have n2_ := Aside0.mk (Kd.R_elder' (xR HO593.out) (Kd.R_base ho0) hb); have n3_ := Aside0.mk (Kd.R_lower (Kd.R_new' (Kd.R_new' (Kd.R_new' ho0 (Kd.R_lt (xR HO585.out))) (Kd.R_lt (xR HO589.out))) (Kd.R_lt (xR HO593.out))) (below_size (xB HB.out))); have n4_ := Aside0.mk (below_step (xB HB.out) hb); clear HO585; clear HO589; clear HO593; clear HB; have HO585 := n0_; have HO589 := n1_; have HO593 := n2_; have HO597 := n3_; have HB := n4_; clear n0_ n1_ n2_ n3_ n4_; (try clear hb); (try clear hb2); (try clear hk); (try clear hi); (try clear ho0)) | (go_at_call 192; (with_reducible refine (spec_WrappedCombs.calls k _ _ t581 t582 t583 t598 t599 _ ?side1 ?side2 A9.out).mono ?_); (case side1 => exact xC ((Kd.R_reads' HO585.out).2.2)); (case side2 => exact (Kd.R_reads' HO585.out).2.1); rintro e w18 ⟨v600, rfl, ho0, hb⟩; have n0_ := Aside0.mk (Kd.R_elder' (xR HO585.out) (Kd.R_base ho0) hb); have n1_ := Aside0.mk (Kd.R_elder' (xR HO589.out) (Kd.R_base ho0) hb); have n2_ := Aside0.mk (Kd.R_elder' (xR HO593.out) (Kd.R_base ho0) hb); have n3_ := Aside0.mk (Kd.R_elder' (xR HO597.out) (Kd.R_base ho0) hb); have n4_ := Aside0.mk (Kd.R_lower (Kd.R_new' (Kd.R_new' (Kd.R_new' (Kd.R_new' ho0 (Kd.R_lt (xR HO585.out))) (Kd.R_lt (xR HO589.out))) (Kd.R_lt (xR HO593.out))) (Kd.R_lt (xR HO597.out))) (below_size (xB HB.out))); have n5_ := Aside0.mk (below_step (xB HB.out) hb); clear HO585; clear HO589; clear HO593; clear HO597; clear HB; have HO585 := n0_; have HO589 := n1_; have HO593 := n2_; have HO597 := n3_; have HO601 := n4_; have HB := n5_; clear n0_ n1_ n2_ n3_ n4_ n5_; (try clear hb); (try clear hb2); (try clear hk); (try clear hi); (try clear ho0)) | (go_at_call 193; (with_reducible refine (impl_CountWraps.calls k _ _ t581 t582 t583 t602 t603 _ ?side1 ?side2 A10.out).mono ?_); (case side1 => exact xC ((Kd.R_reads' HO585.out).2.2)); (case side2 => exact (Kd.R_reads' HO585.out).2.1); rintro e w19 ⟨rfl, hb⟩; have n0_ := Aside0.mk (Kd.R_below (xR HO585.out) hb); have n1_ := Aside0.mk (Kd.R_below (xR HO589.out) hb); have n2_ := Aside0.mk (Kd.R_below (xR HO593.out) hb); have n3_ := Aside0.mk (Kd.R_below (xR HO597.out) hb); have n4_ := Aside0.mk (Kd.R_below (xR HO601.out) hb); have n5_ := Aside0.mk (below_step (xB HB.out) hb); clear HO585; clear HO589; clear HO593; clear HO597; clear HO601; clear HB; have HO585 := n0_; have HO589 := n1_; have HO593 := n2_; have HO597 := n3_; have HO601 := n4_; have HB := n5_; clear n0_ n1_ n2_ n3_ n4_ n5_; (try clear hb); (try clear hb2); (try clear hk); (try clear hi)) | (go_at_call 194; (with_reducible refine (spec_CountWraps.calls k (fun k_ => some k_ = (.slice Ao14 t581.length co14 : Value).ownBlock) _ _ t581 t582 t583 t604 t605 _ ?side1 A11.out).mono ?_); (case side1 => exact Kd.R_V (Kd.R_tight rfl (HO585.out))); rintro e w20 ⟨rfl, hb⟩; have n0_ := Aside0.mk (Kd.R_below (xR HO585.out) hb); have n1_ := Aside0.mk (Kd.R_below (xR HO589.out) hb); have n2_ := Aside0.mk (Kd.R_below (xR HO593.out) hb); have n3_ := Aside0.mk (Kd.R_below (xR HO597.out) hb); have n4_ := Aside0.mk (Kd.R_below (xR HO601.out) hb); have n5_ := Aside0.mk (below_step (xB HB.out) hb); clear HO585; clear HO589; clear HO593; clear HO597; clear HO601; clear HB; have HO585 := n0_; have HO589 := n1_; have HO593 := n2_; have HO597 := n3_; have HO601 := n4_; have HB := n5_; clear n0_ n1_ n2_ n3_ n4_ n5_; (try clear hb); (try clear hb2); (try clear hk); (try clear hi)))
 repeat (go_quiet (first | (go_at_call 13; (with_reducible refine (laws_big.calls _ _ l0 _ _ l1 false _ ?side1 ?side2 ?side3 ?side4 A3.out).mono ?_); (case side1 => exact xC HR0.out); (case side2 => exact HC0.out); (case side3 => exact xC HR1.out); (case side4 => exact HC1.out); rintro e w' ⟨rfl, ⟨nd, rfl⟩⟩; (try exact xD)) | (go_at_call 188; (with_reducible refine (spec_DrawWrappedSums.calls k _ _ l0 t581 t582 t583 _ ?side1 ?side2 A5.out).mono ?_); (case side1 => exact xC HR0.out); (case side2 => exact HC0.out); rintro e w13 ⟨v584, rfl, ho0, hb⟩; have n0_ := Aside0.mk (Kd.R_lower ho0 (below_size (xB HB.out))); have n1_ := Aside0.mk (below_step (xB HB.out) hb); clear HB; have HO585 := n0_; have HB := n1_; clear n0_ n1_; (try clear hb); (try clear hb2); (try clear hk); (try clear hi); (try clear ho0); obtain ⟨Ao14, co14, eo14⟩ := Kd.R_slice HO585.out; subst eo14) | (go_at_call 189; (with_reducible refine (impl_WrappedSums.calls k _ _ t581 t582 t583 t586 t587 _ ?side1 ?side2 A6.out).mono ?_); (case side1 => exact xC ((Kd.R_reads' HO585.out).2.2)); (case side2 => exact (Kd.R_reads' HO585.out).2.1); rintro e w15 ⟨v588, rfl, ho0, hb⟩; have n0_ := Aside0.mk (Kd.R_elder' (xR HO585.out) (Kd.R_base ho0) hb); have n1_ := Aside0.mk (Kd.R_lower (Kd.R_new' ho0 (Kd.R_lt (xR HO585.out))) (below_size (xB HB.out))); have n2_ := Aside0.mk (below_step (xB HB.out) hb); clear HO585; clear HB; have HO585 := n0_; have HO589 := n1_; have HB := n2_; clear n0_ n1_ n2_; (try clear hb); (try clear hb2); (try clear hk); (try clear hi); (try clear ho0)) | (go_at_call 190; (with_reducible refine (spec_WrappedSums.calls k _ _ t581 t582 t583 t590 t591 _ ?side1 ?side2 A7.out).mono ?_); (case side1 => exact xC ((Kd.R_reads' HO585.out).2.2)); (case side2 => exact (Kd.R_reads' HO585.out).2.1); rintro e w16 ⟨v592, rfl, ho0, hb⟩; have n0_ := Aside0.mk (Kd.R_elder' (xR HO585.out) (Kd.R_base ho0) hb); have n1_ := Aside0.mk (Kd.R_elder' (xR HO589.out) (Kd.R_base ho0) hb); have n2_ := Aside0.mk (Kd.R_lower (Kd.R_new' (Kd.R_new' ho0 (Kd.R_lt (xR HO585.out))) (Kd.R_lt (xR HO589.out))) (below_size (xB HB.out))); have n3_ := Aside0.mk (below_step (xB HB.out) hb); clear HO585; clear HO589; clear HB; have HO585 := n0_; have HO589 := n1_; have HO593 := n2_; have HB := n3_; clear n0_ n1_ n2_ n3_; (try clear hb); (try clear hb2); (try clear hk); (try clear hi); (try clear ho0)) | (go_at_call 191; (with_reducible refine (impl_WrappedCombs.calls k _ _ t581 t582 t583 t594 t595 _ ?side1 ?side2 A8.out).mono ?_); (case side1 => exact xC ((Kd.R_reads' HO585.out).2.2)); (case side2 => exact (Kd.R_reads' HO585.out).2.1); rintro e w17 ⟨v596, rfl, ho0, hb⟩; have n0_ := Aside0.mk (Kd.R_elder' (xR HO585.out) (Kd.R_base ho0) hb); have n1_ := Aside0.mk (Kd.R_elder' (xR HO589.out) (Kd.R_base ho0) hb); have n2_ := Aside0.mk (Kd.R_elder' (xR HO593.out) (Kd.R_base ho0) hb); have n3_ := Aside0.mk (Kd.R_lower (Kd.R_new' (Kd.R_new' (Kd.R_new' ho0 (Kd.R_lt (xR HO585.out))) (Kd.R_lt (xR HO589.out))) (Kd.R_lt (xR HO593.out))) (below_size (xB HB.out))); have n4_ := Aside0.mk (below_step (xB HB.out) hb); clear HO585; clear HO589; clear HO593; clear HB; have HO585 := n0_; have HO589 := n1_; have HO593 := n2_; have HO597 := n3_; have HB := n4_; clear n0_ n1_ n2_ n3_ n4_; (try clear hb); (try clear hb2); (try clear hk); (try clear hi); (try clear ho0)) | (go_at_call 192; (with_reducible refine (spec_WrappedCombs.calls k _ _ t581 t582 t583 t598 t599 _ ?side1 ?side2 A9.out).mono ?_); (case side1 => exact xC ((Kd.R_reads' HO585.out).2.2)); (case side2 => exact (Kd.R_reads' HO585.out).2.1); rintro e w18 ⟨v600, rfl, ho0, hb⟩; have n0_ := Aside0.mk (Kd.R_elder' (xR HO585.out) (Kd.R_base ho0) hb); have n1_ := Aside0.mk (Kd.R_elder' (xR HO589.out) (Kd.R_base ho0) hb); have n2_ := Aside0.mk (Kd.R_elder' (xR HO593.out) (Kd.R_base ho0) hb); have n3_ := Aside0.mk (Kd.R_elder' (xR HO597.out) (Kd.R_base ho0) hb); have n4_ := Aside0.mk (Kd.R_lower (Kd.R_new' (Kd.R_new' (Kd.R_new' (Kd.R_new' ho0 (Kd.R_lt (xR HO585.out))) (Kd.R_lt (xR HO589.out))) (Kd.R_lt (xR HO593.out))) (Kd.R_lt (xR HO597.out))) (below_size (xB HB.out))); have n5_ := Aside0.mk (below_step (xB HB.out) hb); clear HO585; clear HO589; clear HO593; clear HO597; clear HB; have HO585 := n0_; have HO589 := n1_; have HO593 := n2_; have HO597 := n3_; have HO601 := n4_; have HB := n5_; clear n0_ n1_ n2_ n3_ n4_ n5_; (try clear hb); (try clear hb2); (try clear hk); (try clear hi); (try clear ho0)) | (go_at_call 193; (with_reducible refine (impl_CountWraps.calls k _ _ t581 t582 t583 t602 t603 _ ?side1 ?side2 A10.out).mono ?_); (case side1 => exact xC ((Kd.R_reads' HO585.out).2.2)); (case side2 => exact (Kd.R_reads' HO585.out).2.1); rintro e w19 ⟨rfl, hb⟩; have n0_ := Aside0.mk (Kd.R_below (xR HO585.out) hb); have n1_ := Aside0.mk (Kd.R_below (xR HO589.out) hb); have n2_ := Aside0.mk (Kd.R_below (xR HO593.out) hb); have n3_ := Aside0.mk (Kd.R_below (xR HO597.out) hb); have n4_ := Aside0.mk (Kd.R_below (xR HO601.out) hb); have n5_ := Aside0.mk (below_step (xB HB.out) hb); clear HO585; clear HO589; clear HO593; clear HO597; clear HO601; clear HB; have HO585 := n0_; have HO589 := n1_; have HO593 := n2_; have HO597 := n3_; have HO601 := n4_; have HB := n5_; clear n0_ n1_ n2_ n3_ n4_ n5_; (try clear hb); (try clear hb2); (try clear hk); (try clear hi)) | (go_at_call 194; (with_reducible refine (spec_CountWraps.calls k (fun k_ => some k_ = (.slice Ao14 t581.length co14 : Value).ownBlock) _ _ t581 t582 t583 t604 t605 _ ?side1 A11.out).mono ?_); (case side1 => exact Kd.R_V (Kd.R_tight rfl (HO585.out))); rintro e w20 ⟨rfl, hb⟩; have n0_ := Aside0.mk (Kd.R_below (xR HO585.out) hb); have n1_ := Aside0.mk (Kd.R_below (xR HO589.out) hb); have n2_ := Aside0.mk (Kd.R_below (xR HO593.out) hb); have n3_ := Aside0.mk (Kd.R_below (xR HO597.out) hb); have n4_ := Aside0.mk (Kd.R_below (xR HO601.out) hb); have n5_ := Aside0.mk (below_step (xB HB.out) hb); clear HO585; clear HO589; clear HO593; clear HO597; clear HO601; clear HB; have HO585 := n0_; have HO589 := n1_; have HO593 := n2_; have HO597 := n3_; have HO601 := n4_; have HB := n5_; clear n0_ n1_ n2_ n3_ n4_ n5_; (try clear hb); (try clear hb2); (try clear hk); (try clear hi))); go_upto_region 10 with (first | (go_at_call 13; (with_reducible refine (laws_big.calls _ _ l0 _ _ l1 false _ ?side1 ?side2 ?side3 ?side4 A3.out).mono ?_); (case side1 => exact xC HR0.out); (case side2 => exact HC0.out); (case side3 => exact xC HR1.out); (case side4 => exact HC1.out); rintro e w' ⟨rfl, ⟨nd, rfl⟩⟩; (try exact xD)) | (go_at_call 188; (with_reducible refine (spec_DrawWrappedSums.calls k _ _ l0 t581 t582 t583 _ ?side1 ?side2 A5.out).mono ?_); (case side1 => exact xC HR0.out); (case side2 => exact HC0.out); rintro e w13 ⟨v584, rfl, ho0, hb⟩; have n0_ := Aside0.mk (Kd.R_lower ho0 (below_size (xB HB.out))); have n1_ := Aside0.mk (below_step (xB HB.out) hb); clear HB; have HO585 := n0_; have HB := n1_; clear n0_ n1_; (try clear hb); (try clear hb2); (try clear hk); (try clear hi); (try clear ho0); obtain ⟨Ao14, co14, eo14⟩ := Kd.R_slice HO585.out; subst eo14) | (go_at_call 189; (with_reducible refine (impl_WrappedSums.calls k _ _ t581 t582 t583 t586 t587 _ ?side1 ?side2 A6.out).mono ?_); (case side1 => exact xC ((Kd.R_reads' HO585.out).2.2)); (case side2 => exact (Kd.R_reads' HO585.out).2.1); rintro e w15 ⟨v588, rfl, ho0, hb⟩; have n0_ := Aside0.mk (Kd.R_elder' (xR HO585.out) (Kd.R_base ho0) hb); have n1_ := Aside0.mk (Kd.R_lower (Kd.R_new' ho0 (Kd.R_lt (xR HO585.out))) (below_size (xB HB.out))); have n2_ := Aside0.mk (below_step (xB HB.out) hb); clear HO585; clear HB; have HO585 := n0_; have HO589 := n1_; have HB := n2_; clear n0_ n1_ n2_; (try clear hb); (try clear hb2); (try clear hk); (try clear hi); (try clear ho0)) | (go_at_call 190; (with_reducible refine (spec_WrappedSums.calls k _ _ t581 t582 t583 t590 t591 _ ?side1 ?side2 A7.out).mono ?_); (case side1 => exact xC ((Kd.R_reads' HO585.out).2.2)); (case side2 => exact (Kd.R_reads' HO585.out).2.1); rintro e w16 ⟨v592, rfl, ho0, hb⟩; have n0_ := Aside0.mk (Kd.R_elder' (xR HO585.out) (Kd.R_base ho0) hb); have n1_ := Aside0.mk (Kd.R_elder' (xR HO589.out) (Kd.R_base ho0) hb); have n2_ := Aside0.mk (Kd.R_lower (Kd.R_new' (Kd.R_new' ho0 (Kd.R_lt (xR HO585.out))) (Kd.R_lt (xR HO589.out))) (below_size (xB HB.out))); have n3_ := Aside0.mk (below_step (xB HB.out) hb); clear HO585; clear HO589; clear HB; have HO585 := n0_; have HO589 := n1_; have HO593 := n2_; have HB := n3_; clear n0_ n1_ n2_ n3_; (try clear hb); (try clear hb2); (try clear hk); (try clear hi); (try clear ho0)) | (go_at_call 191; (with_reducible refine (impl_WrappedCombs.calls k _ _ t581 t582 t583 t594 t595 _ ?side1 ?side2 A8.out).mono ?_); (case side1 => exact xC ((Kd.R_reads' HO585.out).2.2)); (case side2 => exact (Kd.R_reads' HO585.out).2.1); rintro e w17 ⟨v596, rfl, ho0, hb⟩; have n0_ := Aside0.mk (Kd.R_elder' (xR HO585.out) (Kd.R_base ho0) hb); have n1_ := Aside0.mk (Kd.R_elder' (xR HO589.out) (Kd.R_base ho0) hb); have n2_ := Aside0.mk (Kd.R_elder' (xR HO593.out) (Kd.R_base ho0) hb); have n3_ := Aside0.mk (Kd.R_lower (Kd.R_new' (Kd.R_new' (Kd.R_new' ho0 (Kd.R_lt (xR HO585.out))) (Kd.R_lt (xR HO589.out))) (Kd.R_lt (xR HO593.out))) (below_size (xB HB.out))); have n4_ := Aside0.mk (below_step (xB HB.out) hb); clear HO585; clear HO589; clear HO593; clear HB; have HO585 := n0_; have HO589 := n1_; have HO593 := n2_; have HO597 := n3_; have HB := n4_; clear n0_ n1_ n2_ n3_ n4_; (try clear hb); (try clear hb2); (try clear hk); (try clear hi); (try clear ho0)) | (go_at_call 192; (with_reducible refine (spec_WrappedCombs.calls k _ _ t581 t582 t583 t598 t599 _ ?side1 ?side2 A9.out).mono ?_); (case side1 => exact xC ((Kd.R_reads' HO585.out).2.2)); (case side2 => exact (Kd.R_reads' HO585.out).2.1); rintro e w18 ⟨v600, rfl, ho0, hb⟩; have n0_ := Aside0.mk (Kd.R_elder' (xR HO585.out) (Kd.R_base ho0) hb); have n1_ := Aside0.mk (Kd.R_elder' (xR HO589.out) (Kd.R_base ho0) hb); have n2_ := Aside0.mk (Kd.R_elder' (xR HO593.out) (Kd.R_base ho0) hb); have n3_ := Aside0.mk (Kd.R_elder' (xR HO597.out) (Kd.R_base ho0) hb); have n4_ := Aside0.mk (Kd.R_lower (Kd.R_new' (Kd.R_new' (Kd.R_new' (Kd.R_new' ho0 (Kd.R_lt (xR HO585.out))) (Kd.R_lt (xR HO589.out))) (Kd.R_lt (xR HO593.out))) (Kd.R_lt (xR HO597.out))) (below_size (xB HB.out))); have n5_ := Aside0.mk (below_step (xB HB.out) hb); clear HO585; clear HO589; clear HO593; clear HO597; clear HB; have HO585 := n0_; have HO589 := n1_; have HO593 := n2_; have HO597 := n3_; have HO601 := n4_; have HB := n5_; clear n0_ n1_ n2_ n3_ n4_ n5_; (try clear hb); (try clear hb2); (try clear hk); (try clear hi); (try clear ho0)) | (go_at_call 193; (with_reducible refine (impl_CountWraps.calls k _ _ t581 t582 t583 t602 t603 _ ?side1 ?side2 A10.out).mono ?_); (case side1 => exact xC ((Kd.R_reads' HO585.out).2.2)); (case side2 => exact (Kd.R_reads' HO585.out).2.1); rintro e w19 ⟨rfl, hb⟩; have n0_ := Aside0.mk (Kd.R_below (xR HO585.out) hb); have n1_ := Aside0.mk (Kd.R_below (xR HO589.out) hb); have n2_ := Aside0.mk (Kd.R_below (xR HO593.out) hb); have n3_ := Aside0.mk (Kd.R_below (xR HO597.out) hb); have n4_ := Aside0.mk (Kd.R_below (xR HO601.out) hb); have n5_ := Aside0.mk (below_step (xB HB.out) hb); clear HO585; clear HO589; clear HO593; clear HO597; clear HO601; clear HB; have HO585 := n0_; have HO589 := n1_; have HO593 := n2_; have HO597 := n3_; have HO601 := n4_; have HB := n5_; clear n0_ n1_ n2_ n3_ n4_ n5_; (try clear hb); (try clear hb2); (try clear hk); (try clear hi)) | (go_at_call 194; (with_reducible refine (spec_CountWraps.calls k (fun k_ => some k_ = (.slice Ao14 t581.length co14 : Value).ownBlock) _ _ t581 t582 t583 t604 t605 _ ?side1 A11.out).mono ?_); (case side1 => exact Kd.R_V (Kd.R_tight rfl (HO585.out))); rintro e w20 ⟨rfl, hb⟩; have n0_ := Aside0.mk (Kd.R_below (xR HO585.out) hb); have n1_ := Aside0.mk (Kd.R_below (xR HO589.out) hb); have n2_ := Aside0.mk (Kd.R_below (xR HO593.out) hb); have n3_ := Aside0.mk (Kd.R_below (xR HO597.out) hb); have n4_ := Aside0.mk (Kd.R_below (xR HO601.out) hb); have n5_ := Aside0.mk (below_step (xB HB.out) hb); clear HO585; clear HO589; clear HO593; clear HO597; clear HO601; clear HB; have HO585 := n0_; have HO589 := n1_; have HO593 := n2_; have HO597 := n3_; have HO601 := n4_; have HB := n5_; clear n0_ n1_ n2_ n3_ n4_ n5_; (try clear hb); (try clear hb2); (try clear hk); (try clear hi))))
 (try simp only [Act.put, List.setIfInBounds_toArray, List.set_cons_zero, List.set_cons_succ])
 go_cut [168] from 78 to 128 (fun v168 wc => ∃ (kq : Nat) (x168_11 : Bool), v168 = .bool x168_11 ∧ Aside0 (laws_FnSumsUndone.j0 kq l1 t581 t582 t583 t586 t587 t594 t602 x168_11 = some r) ∧ Aside0 (kq ≤ k) ∧ Aside0 (Kd.R (Kd.int .i64) 3 wc w.heap.size (fun k_ => some k_ ≠ (v588 : Value).ownBlock ∧ some k_ ≠ (v596 : Value).ownBlock) (.slice Ao14 t581.length co14) t581) ∧ Aside0 (Kd.R (Kd.int .i64) 3 wc w.heap.size (fun k_ => some k_ ≠ ((.slice Ao14 t581.length co14) : Value).ownBlock ∧ some k_ ≠ (v596 : Value).ownBlock) v588 t586) ∧ Aside0 (Kd.R (Kd.int .i64) 3 wc w.heap.size (fun k_ => some k_ ≠ ((.slice Ao14 t581.length co14) : Value).ownBlock ∧ some k_ ≠ (v588 : Value).ownBlock) v596 t594) ∧ Aside0 (Below w.heap.size w wc))
 case first => as_aux_lemma =>
  have H := HC12.out
  clear HC12
  by_cases c21 : (t587 != t591) = true
  ·as_aux_lemma =>
    rw [if_pos c21] at H
    have c21b0 : (t587 != t591) = true := c21
    (try (have c21b1 : decide (t587 = t591) = false := by simpa using c21))
    (try (have c21b2 : (t587 == t591) = false := by simpa using c21))
    (try (have c21b3 : ¬ (t587 = t591) := by simpa using c21))
    clear c21
    (first | rw [c21b0] | (simp only [i64_w, i32_w]; rw [c21b0]) | skip)
    exact absurd H (by have hr_ := HRT.out; cases k <;> simp [laws_FnSumsUndone.j0, hr_])
  rw [if_neg c21] at H
  have c21b0 : (t587 != t591) = false := by simpa using c21
  (try (have c21b1 : decide (t587 = t591) = true := by simpa using c21))
  (try (have c21b2 : (t587 == t591) = true := by simpa using c21))
  clear c21
  (first | rw [c21b0] | (simp only [i64_w, i32_w]; rw [c21b0]) | skip)
  replace H := Option.bind_eq_some_iff.mp H
  obtain ⟨t606, A220, H⟩ := H
  (try dsimp only at H)
  have A22 := Aside0.mk A220
  clear A220
  by_cases c23 : t606 = true
  rotate_left
  ·as_aux_lemma =>
    replace c23 := Bool.eq_false_iff.mpr c23
    subst c23
    have H1 := H
    rw [if_neg (show ¬ (false = true) by decide)] at H1
    clear H
    have H := H1
    clear H1
    exact absurd H (by have hr_ := HRT.out; cases k <;> simp [laws_FnSumsUndone.j0, hr_])
  subst c23
  have H1 := H
  rw [if_pos rfl] at H1
  clear H
  have H := H1
  clear H1
  by_cases c24 : (t595 != t599) = true
  ·as_aux_lemma =>
    rw [if_pos c24] at H
    have c24b0 : (t595 != t599) = true := c24
    (try (have c24b1 : decide (t595 = t599) = false := by simpa using c24))
    (try (have c24b2 : (t595 == t599) = false := by simpa using c24))
    (try (have c24b3 : ¬ (t595 = t599) := by simpa using c24))
    clear c24
    exact absurd H (by have hr_ := HRT.out; cases k <;> simp [laws_FnSumsUndone.j0, hr_])
  rw [if_neg c24] at H
  have c24b0 : (t595 != t599) = false := by simpa using c24
  (try (have c24b1 : decide (t595 = t599) = true := by simpa using c24))
  (try (have c24b2 : (t595 == t599) = true := by simpa using c24))
  clear c24
  replace H := Option.bind_eq_some_iff.mp H
  obtain ⟨t607, A250, H⟩ := H
  (try dsimp only at H)
  have A25 := Aside0.mk A250
  clear A250
  by_cases c26 : t607 = true
  rotate_left
  ·as_aux_lemma =>
    replace c26 := Bool.eq_false_iff.mpr c26
    subst c26
    have H1 := H
    rw [if_neg (show ¬ (false = true) by decide)] at H1
    clear H
    have H := H1
    clear H1
    exact absurd H (by have hr_ := HRT.out; cases k <;> simp [laws_FnSumsUndone.j0, hr_])
  as_aux_lemma =>
   subst c26
   have H1 := H
   rw [if_pos rfl] at H1
   clear H
   have H := H1
   clear H1
   by_cases c27 : (t603 != t605) = true
   ·rw [if_pos c27] at H
    have c27b0 : (t603 != t605) = true := c27
    (try (have c27b1 : decide (t603 = t605) = false := by simpa using c27))
    (try (have c27b2 : (t603 == t605) = false := by simpa using c27))
    (try (have c27b3 : ¬ (t603 = t605) := by simpa using c27))
    clear c27
    exact absurd H (by have hr_ := HRT.out; cases k <;> simp [laws_FnSumsUndone.j0, hr_])
   rw [if_neg c27] at H
   have c27b0 : (t603 != t605) = false := by simpa using c27
   (try (have c27b1 : decide (t603 = t605) = true := by simpa using c27))
   (try (have c27b2 : (t603 == t605) = true := by simpa using c27))
   clear c27
   by_cases c28 : t602 = t604
   rotate_left
   ·rw [if_neg c28] at H
    have c28b0 : (t602 == t604) = false := beq_eq_false_iff_ne.mpr c28
    have c28b1 : (t602 != t604) = true := bne_iff_ne.mpr c28
    exact absurd H (by have hr_ := HRT.out; cases k <;> simp [laws_FnSumsUndone.j0, hr_])
   rw [if_pos c28] at H
   have c28b0 : (t602 == t604) = true := beq_iff_eq.mpr c28
   have c28b1 : (t602 != t604) = false := bne_eq_false_iff_eq.mpr c28
   clear c28
   by_cases c29 : (t595 != t587) = true
   ·rw [if_pos c29] at H
    have c29b0 : (t595 != t587) = true := c29
    (try (have c29b1 : decide (t595 = t587) = false := by simpa using c29))
    (try (have c29b2 : (t595 == t587) = false := by simpa using c29))
    (try (have c29b3 : ¬ (t595 = t587) := by simpa using c29))
    clear c29
    exact absurd H (by have hr_ := HRT.out; cases k <;> simp [laws_FnSumsUndone.j0, hr_])
   rw [if_neg c29] at H
   have c29b0 : (t595 != t587) = false := by simpa using c29
   (try (have c29b1 : decide (t595 = t587) = true := by simpa using c29))
   (try (have c29b2 : (t595 == t587) = true := by simpa using c29))
   clear c29
   have H' := Aside0.mk H
   clear H
   obtain ⟨Ao30, co30, eo30⟩ := Kd.R_slice HO589.out
   subst eo30
   obtain ⟨Ao31, co31, eo31⟩ := Kd.R_slice HO593.out
   subst eo31
   go_wp2_with (first | (go_at_call 21; (with_reducible refine (laws_iSame.calls k _ _ t586 _ _ t590 true _ ?side1 ?side2 ?side3 ?side4 A22.out).mono ?_); (case side1 => exact xC ((Kd.R_reads' HO589.out).2.2)); (case side2 => exact (Kd.R_reads' HO589.out).2.1); (case side3 => exact xC ((Kd.R_reads' HO593.out).2.2)); (case side4 => exact (Kd.R_reads' HO593.out).2.1); rintro e w' ⟨rfl, ⟨nd, rfl⟩⟩; (try exact xD); obtain ⟨Ao32, co32, eo32⟩ := Kd.R_slice HO597.out; subst eo32; obtain ⟨Ao33, co33, eo33⟩ := Kd.R_slice HO601.out; subst eo33) | (go_at_call 21; (with_reducible refine (laws_iSame.calls k _ _ t594 _ _ t598 true _ ?side1 ?side2 ?side3 ?side4 A25.out).mono ?_); (case side1 => exact xC ((Kd.R_reads' HO597.out).2.2)); (case side2 => exact (Kd.R_reads' HO597.out).2.1); (case side3 => exact xC ((Kd.R_reads' HO601.out).2.2)); (case side4 => exact (Kd.R_reads' HO601.out).2.1); rintro e w' ⟨rfl, ⟨nd, rfl⟩⟩; (try exact xD)))
   repeat (go_quiet (first | (go_at_call 21; (with_reducible refine (laws_iSame.calls k _ _ t586 _ _ t590 true _ ?side1 ?side2 ?side3 ?side4 A22.out).mono ?_); (case side1 => exact xC ((Kd.R_reads' HO589.out).2.2)); (case side2 => exact (Kd.R_reads' HO589.out).2.1); (case side3 => exact xC ((Kd.R_reads' HO593.out).2.2)); (case side4 => exact (Kd.R_reads' HO593.out).2.1); rintro e w' ⟨rfl, ⟨nd, rfl⟩⟩; (try exact xD); obtain ⟨Ao32, co32, eo32⟩ := Kd.R_slice HO597.out; subst eo32; obtain ⟨Ao33, co33, eo33⟩ := Kd.R_slice HO601.out; subst eo33) | (go_at_call 21; (with_reducible refine (laws_iSame.calls k _ _ t594 _ _ t598 true _ ?side1 ?side2 ?side3 ?side4 A25.out).mono ?_); (case side1 => exact xC ((Kd.R_reads' HO597.out).2.2)); (case side2 => exact (Kd.R_reads' HO597.out).2.1); (case side3 => exact xC ((Kd.R_reads' HO601.out).2.2)); (case side4 => exact (Kd.R_reads' HO601.out).2.1); rintro e w' ⟨rfl, ⟨nd, rfl⟩⟩; (try exact xD))); try go_wp2_with (first | (go_at_call 21; (with_reducible refine (laws_iSame.calls k _ _ t586 _ _ t590 true _ ?side1 ?side2 ?side3 ?side4 A22.out).mono ?_); (case side1 => exact xC ((Kd.R_reads' HO589.out).2.2)); (case side2 => exact (Kd.R_reads' HO589.out).2.1); (case side3 => exact xC ((Kd.R_reads' HO593.out).2.2)); (case side4 => exact (Kd.R_reads' HO593.out).2.1); rintro e w' ⟨rfl, ⟨nd, rfl⟩⟩; (try exact xD); obtain ⟨Ao32, co32, eo32⟩ := Kd.R_slice HO597.out; subst eo32; obtain ⟨Ao33, co33, eo33⟩ := Kd.R_slice HO601.out; subst eo33) | (go_at_call 21; (with_reducible refine (laws_iSame.calls k _ _ t594 _ _ t598 true _ ?side1 ?side2 ?side3 ?side4 A25.out).mono ?_); (case side1 => exact xC ((Kd.R_reads' HO597.out).2.2)); (case side2 => exact (Kd.R_reads' HO597.out).2.1); (case side3 => exact xC ((Kd.R_reads' HO601.out).2.2)); (case side4 => exact (Kd.R_reads' HO601.out).2.1); rintro e w' ⟨rfl, ⟨nd, rfl⟩⟩; (try exact xD))))
   go_meet
   case rel => exact ⟨_, ((t603 != t587)), (by first | rfl | (simp; done) | (simp [*]; done)), H', ⟨by first | omega | exact Nat.le_refl _⟩, ⟨by (with_reducible repeat (first | apply Kd.R_alloc | apply Kd.R_drewN | apply Kd.R_drew)); exact Kd.R_mono HO585.out (fun _ hk => ⟨hk.1.1.1.2, hk.1.2⟩)⟩, ⟨by (with_reducible repeat (first | apply Kd.R_alloc | apply Kd.R_drewN | apply Kd.R_drew)); exact Kd.R_mono HO589.out (fun _ hk => ⟨hk.1.1.1.2, hk.1.2⟩)⟩, ⟨by (with_reducible repeat (first | apply Kd.R_alloc | apply Kd.R_drewN | apply Kd.R_drew)); exact Kd.R_mono HO597.out (fun _ hk => ⟨hk.1.1.1.2, hk.1.1.2⟩)⟩, ⟨xB HB.out⟩⟩
 case rest => as_aux_lemma =>
  clear HC12
  try clear c1
  try clear c4
  obtain ⟨kq, x168_11, rfl, HA, HJ11, HO_5, HO_8, HO_12, HB⟩ := hcut
  cases kq with
  | zero => exact absurd HA.out (by simp [laws_FnSumsUndone.j0])
  | succ kj11 =>
   have H := HA.out
   clear HA
   simp only [laws_FnSumsUndone.j0] at H
   by_cases c34 : x168_11 = true
   ·as_aux_lemma =>
     subst c34
     have H1 := H
     rw [if_pos rfl] at H1
     clear H
     have H := H1
     clear H1
     exact absurd ((Option.some.inj H).trans HRT.out) (by decide)
   replace c34 := Bool.eq_false_iff.mpr c34
   subst c34
   have H1 := H
   rw [if_neg (show ¬ (false = true) by decide)] at H1
   clear H
   have H := H1
   clear H1
   have HC35 := Aside0.mk H
   clear H
   go_upto_if 169 with (fail)
   repeat (go_quiet (fail); go_upto_if 169 with (fail))
   go_cut [] from 129 to 169 (fun wc => ∃ (kq : Nat), Aside0 (laws_FnSumsUndone.j6 kq l1 = some r) ∧ Aside0 (kq ≤ kj11) ∧ Aside0 (Below w.heap.size w wc))
   case first => as_aux_lemma =>
    have H := HC35.out
    clear HC35
    by_cases c36 : t587 = true
    rotate_left
    ·as_aux_lemma =>
      replace c36 := Bool.eq_false_iff.mpr c36
      subst c36
      have H1 := H
      rw [if_neg (show ¬ (false = true) by decide)] at H1
      clear H
      have H := H1
      clear H1
      have H' := Aside0.mk H
      clear H
      go_wp2
      repeat (go_quiet (fail); try go_wp2)
      go_meet
      case rel => exact ⟨_, H', ⟨by have := HJ11.out; first | omega | exact Nat.le_refl _⟩, ⟨xB HB.out⟩⟩
    subst c36
    have H1 := H
    rw [if_pos rfl] at H1
    clear H
    have H := H1
    clear H1
    replace H := Option.bind_eq_some_iff.mp H
    obtain ⟨⟨t608, t609⟩, A370, H⟩ := H
    (try dsimp only at H)
    have A37 := Aside0.mk A370
    clear A370
    have HC38 := Aside0.mk H
    clear H
    obtain ⟨Ao39, co39, eo39⟩ := Kd.R_slice HO_8.out
    subst eo39
    go_upto_if 177 with (first | (go_at_call 191; (with_reducible refine (impl_WrappedCombs.calls kj11 _ _ t586 t582 t583 t608 t609 _ ?side1 ?side2 A37.out).mono ?_); (case side1 => exact xC ((Kd.R_reads' HO_8.out).2.2)); (case side2 => exact (Kd.R_reads' HO_8.out).2.1); rintro e w40 ⟨v610, rfl, ho0, hb⟩; have n0_ := Aside0.mk (Kd.R_elder' (xR HO_5.out) (Kd.R_base ho0) hb); have n1_ := Aside0.mk (Kd.R_elder' (xR HO_8.out) (Kd.R_base ho0) hb); have n2_ := Aside0.mk (Kd.R_elder' (xR HO_12.out) (Kd.R_base ho0) hb); have n3_ := Aside0.mk (Kd.R_lower (Kd.R_new' (Kd.R_new' (Kd.R_new' ho0 (Kd.R_lt (xR HO_5.out))) (Kd.R_lt (xR HO_8.out))) (Kd.R_lt (xR HO_12.out))) (below_size (xB HB.out))); have n4_ := Aside0.mk (below_step (xB HB.out) hb); clear HO_5; clear HO_8; clear HO_12; clear HB; have HO_5 := n0_; have HO_8 := n1_; have HO_12 := n2_; have HO611 := n3_; have HB := n4_; clear n0_ n1_ n2_ n3_ n4_; (try clear hb); (try clear hb2); (try clear hk); (try clear hi); (try clear ho0)))
    repeat (go_quiet (first | (go_at_call 191; (with_reducible refine (impl_WrappedCombs.calls kj11 _ _ t586 t582 t583 t608 t609 _ ?side1 ?side2 A37.out).mono ?_); (case side1 => exact xC ((Kd.R_reads' HO_8.out).2.2)); (case side2 => exact (Kd.R_reads' HO_8.out).2.1); rintro e w40 ⟨v610, rfl, ho0, hb⟩; have n0_ := Aside0.mk (Kd.R_elder' (xR HO_5.out) (Kd.R_base ho0) hb); have n1_ := Aside0.mk (Kd.R_elder' (xR HO_8.out) (Kd.R_base ho0) hb); have n2_ := Aside0.mk (Kd.R_elder' (xR HO_12.out) (Kd.R_base ho0) hb); have n3_ := Aside0.mk (Kd.R_lower (Kd.R_new' (Kd.R_new' (Kd.R_new' ho0 (Kd.R_lt (xR HO_5.out))) (Kd.R_lt (xR HO_8.out))) (Kd.R_lt (xR HO_12.out))) (below_size (xB HB.out))); have n4_ := Aside0.mk (below_step (xB HB.out) hb); clear HO_5; clear HO_8; clear HO_12; clear HB; have HO_5 := n0_; have HO_8 := n1_; have HO_12 := n2_; have HO611 := n3_; have HB := n4_; clear n0_ n1_ n2_ n3_ n4_; (try clear hb); (try clear hb2); (try clear hk); (try clear hi); (try clear ho0))); go_upto_if 177 with (first | (go_at_call 191; (with_reducible refine (impl_WrappedCombs.calls kj11 _ _ t586 t582 t583 t608 t609 _ ?side1 ?side2 A37.out).mono ?_); (case side1 => exact xC ((Kd.R_reads' HO_8.out).2.2)); (case side2 => exact (Kd.R_reads' HO_8.out).2.1); rintro e w40 ⟨v610, rfl, ho0, hb⟩; have n0_ := Aside0.mk (Kd.R_elder' (xR HO_5.out) (Kd.R_base ho0) hb); have n1_ := Aside0.mk (Kd.R_elder' (xR HO_8.out) (Kd.R_base ho0) hb); have n2_ := Aside0.mk (Kd.R_elder' (xR HO_12.out) (Kd.R_base ho0) hb); have n3_ := Aside0.mk (Kd.R_lower (Kd.R_new' (Kd.R_new' (Kd.R_new' ho0 (Kd.R_lt (xR HO_5.out))) (Kd.R_lt (xR HO_8.out))) (Kd.R_lt (xR HO_12.out))) (below_size (xB HB.out))); have n4_ := Aside0.mk (below_step (xB HB.out) hb); clear HO_5; clear HO_8; clear HO_12; clear HB; have HO_5 := n0_; have HO_8 := n1_; have HO_12 := n2_; have HO611 := n3_; have HB := n4_; clear n0_ n1_ n2_ n3_ n4_; (try clear hb); (try clear hb2); (try clear hk); (try clear hi); (try clear ho0))))
    (try simp only [Act.put, List.setIfInBounds_toArray, List.set_cons_zero, List.set_cons_succ])
    go_cut [] from 170 to 177 (fun wc => ∃ (kq : Nat), Aside0 (laws_FnSumsUndone.j2 kq l1 t581 t582 t583 t586 t594 t602 = some r) ∧ Aside0 (kq ≤ kj11) ∧ Aside0 (Kd.R (Kd.int .i64) 3 wc w.heap.size (fun k_ => some k_ ≠ ((.slice Ao39 t586.length co39) : Value).ownBlock ∧ some k_ ≠ (v596 : Value).ownBlock) (.slice Ao14 t581.length co14) t581) ∧ Aside0 (Kd.R (Kd.int .i64) 3 wc w.heap.size (fun k_ => some k_ ≠ ((.slice Ao14 t581.length co14) : Value).ownBlock ∧ some k_ ≠ (v596 : Value).ownBlock) (.slice Ao39 t586.length co39) t586) ∧ Aside0 (Kd.R (Kd.int .i64) 3 wc w.heap.size (fun k_ => some k_ ≠ ((.slice Ao14 t581.length co14) : Value).ownBlock ∧ some k_ ≠ ((.slice Ao39 t586.length co39) : Value).ownBlock) v596 t594) ∧ Aside0 (Below w.heap.size w wc))
    case first => as_aux_lemma =>
     have H := HC38.out
     clear HC38
     by_cases c41 : t609 = true
     rotate_left
     ·as_aux_lemma =>
       replace c41 := Bool.eq_false_iff.mpr c41
       subst c41
       have H1 := H
       rw [if_neg (show ¬ (false = true) by decide)] at H1
       clear H
       have H := H1
       clear H1
       have H' := Aside0.mk H
       clear H
       go_wp2
       repeat (go_quiet (fail); try go_wp2)
       go_meet
       case rel => exact ⟨_, H', ⟨by have := HJ11.out; first | omega | exact Nat.le_refl _⟩, ⟨by (with_reducible repeat (first | apply Kd.R_alloc | apply Kd.R_drewN | apply Kd.R_drew)); exact Kd.R_mono HO_5.out (fun _ hk => ⟨hk.1.1, hk.1.2⟩)⟩, ⟨by (with_reducible repeat (first | apply Kd.R_alloc | apply Kd.R_drewN | apply Kd.R_drew)); exact Kd.R_mono HO_8.out (fun _ hk => ⟨hk.1.1, hk.1.2⟩)⟩, ⟨by (with_reducible repeat (first | apply Kd.R_alloc | apply Kd.R_drewN | apply Kd.R_drew)); exact Kd.R_mono HO_12.out (fun _ hk => ⟨hk.1.1, hk.1.2⟩)⟩, ⟨xB HB.out⟩⟩
     subst c41
     have H1 := H
     rw [if_pos rfl] at H1
     clear H
     have H := H1
     clear H1
     have H' := Aside0.mk H
     clear H
     go_wp2
     repeat (go_quiet (fail); try go_wp2)
     go_loopg [180] kj11 (fun kq v180 w' => ∃ (x180_2 : Int), v180 = .int .i64 x180_2 ∧ Aside0 (laws_FnSumsUndone.l0 kq l1 t581 t582 t583 t586 t594 t602 t608 t581 (t581.length : Int) x180_2 = some r) ∧ Aside0 (kq ≤ kj11) ∧ Aside0 (Kd.R (Kd.int .i64) 3 w' w.heap.size (fun k_ => some k_ ≠ ((.slice Ao39 t586.length co39) : Value).ownBlock ∧ some k_ ≠ (v596 : Value).ownBlock ∧ some k_ ≠ (v610 : Value).ownBlock) (.slice Ao14 t581.length co14) t581) ∧ Aside0 (Kd.R (Kd.int .i64) 3 w' w.heap.size (fun k_ => some k_ ≠ ((.slice Ao14 t581.length co14) : Value).ownBlock ∧ some k_ ≠ (v596 : Value).ownBlock ∧ some k_ ≠ (v610 : Value).ownBlock ∧ some k_ ≠ ((.slice Ao14 t581.length co14) : Value).ownBlock) (.slice Ao39 t586.length co39) t586) ∧ Aside0 (Kd.R (Kd.int .i64) 3 w' w.heap.size (fun k_ => some k_ ≠ ((.slice Ao14 t581.length co14) : Value).ownBlock ∧ some k_ ≠ ((.slice Ao39 t586.length co39) : Value).ownBlock ∧ some k_ ≠ (v610 : Value).ownBlock ∧ some k_ ≠ ((.slice Ao14 t581.length co14) : Value).ownBlock) v596 t594) ∧ Aside0 (Kd.R (Kd.int .i64) 3 w' w.heap.size (fun k_ => some k_ ≠ ((.slice Ao14 t581.length co14) : Value).ownBlock ∧ some k_ ≠ ((.slice Ao39 t586.length co39) : Value).ownBlock ∧ some k_ ≠ (v596 : Value).ownBlock ∧ some k_ ≠ ((.slice Ao14 t581.length co14) : Value).ownBlock) v610 t608) ∧ Aside0 (Kd.R (Kd.int .i64) 3 w' w.heap.size (fun k_ => some k_ ≠ ((.slice Ao39 t586.length co39) : Value).ownBlock ∧ some k_ ≠ (v596 : Value).ownBlock ∧ some k_ ≠ (v610 : Value).ownBlock) (.slice Ao14 t581.length co14) t581) ∧ Aside0 (Below w.heap.size w w'))
     case atStart => exact ⟨(0), (by first | rfl | (simp; done) | (simp [*]; done)), H', ⟨Nat.le_refl _⟩, ⟨by (with_reducible repeat (first | apply Kd.R_alloc | apply Kd.R_drewN | apply Kd.R_drew)); exact Kd.R_mono HO_5.out (fun _ hk => ⟨hk.1.1, ⟨hk.1.2, hk.2⟩⟩)⟩, ⟨by (with_reducible repeat (first | apply Kd.R_alloc | apply Kd.R_drewN | apply Kd.R_drew)); exact Kd.R_mono HO_8.out (fun _ hk => ⟨hk.1.1, ⟨hk.1.2, ⟨hk.2, hk.1.1⟩⟩⟩)⟩, ⟨by (with_reducible repeat (first | apply Kd.R_alloc | apply Kd.R_drewN | apply Kd.R_drew)); exact Kd.R_mono HO_12.out (fun _ hk => ⟨hk.1.1, ⟨hk.1.2, ⟨hk.2, hk.1.1⟩⟩⟩)⟩, ⟨by (with_reducible repeat (first | apply Kd.R_alloc | apply Kd.R_drewN | apply Kd.R_drew)); exact Kd.R_mono HO611.out (fun _ hk => ⟨hk.1.1.2, ⟨hk.1.2, ⟨hk.2, hk.1.1.2⟩⟩⟩)⟩, ⟨by (with_reducible repeat (first | apply Kd.R_alloc | apply Kd.R_drewN | apply Kd.R_drew)); exact Kd.R_mono HO_5.out (fun _ hk => ⟨hk.1.1, ⟨hk.1.2, hk.2⟩⟩)⟩, ⟨xB HB.out⟩⟩
     case round =>
      clear H'
      try clear c34
      try clear c36
      try clear c41
      obtain ⟨x180_2, rfl, HA, HK2, HO_5, HO_8, HO_12, HO_20, HO_178, HB⟩ := hrel
      cases gk with
      | zero => exact absurd HA.out (by simp [laws_FnSumsUndone.l0])
      | succ k2 =>
       have H := HA.out
       clear HA
       simp only [laws_FnSumsUndone.l0] at H
       by_cases c42 : x180_2 < (t581.length : Int)
       rotate_left
       ·as_aux_lemma =>
         rw [if_neg c42] at H
         have c42b0 : decide (x180_2 < (t581.length : Int)) = false := decide_eq_false c42
         clear c42
         (first | rw [c42b0] | (simp only [i64_w, i32_w]; rw [c42b0]) | skip)
         have H' := Aside0.mk H
         clear H
         go_wp2
         repeat (go_quiet (fail); try go_wp2)
         go_meet
         case rel => exact ⟨_, H', ⟨by have := HJ11.out; have := HK2.out; first | omega | exact Nat.le_refl _⟩, ⟨by (with_reducible repeat (first | apply Kd.R_alloc | apply Kd.R_drewN | apply Kd.R_drew)); exact Kd.R_mono HO_5.out (fun _ hk => ⟨hk.1, hk.2.1⟩)⟩, ⟨by (with_reducible repeat (first | apply Kd.R_alloc | apply Kd.R_drewN | apply Kd.R_drew)); exact Kd.R_mono HO_8.out (fun _ hk => ⟨hk.1, hk.2.1⟩)⟩, ⟨by (with_reducible repeat (first | apply Kd.R_alloc | apply Kd.R_drewN | apply Kd.R_drew)); exact Kd.R_mono HO_12.out (fun _ hk => ⟨hk.1, hk.2.1⟩)⟩, ⟨xB HB.out⟩⟩
       as_aux_lemma =>
        rw [if_pos c42] at H
        have c42b0 : decide (x180_2 < (t581.length : Int)) = true := decide_eq_true c42
        clear c42
        (first | rw [c42b0] | (simp only [i64_w, i32_w]; rw [c42b0]) | skip)
        by_cases c43 : 0 ≤ x180_2
        rotate_left
        ·rw [if_neg c43] at H
         exact absurd H (by simp)
        rw [if_pos c43] at H
        have c43b0 : decide (0 ≤ x180_2) = true := decide_eq_true c43
        clear c43
        by_cases c44 : x180_2 < (t581.length : Int)
        rotate_left
        ·rw [if_neg c44] at H
         exact absurd H (by simp)
        rw [if_pos c44] at H
        have c44b0 : decide (x180_2 < (t581.length : Int)) = true := decide_eq_true c44
        clear c44
        by_cases c45 : x180_2 < (t608.length : Int)
        rotate_left
        ·rw [if_neg c45] at H
         exact absurd H (by simp)
        rw [if_pos c45] at H
        have c45b0 : decide (x180_2 < (t608.length : Int)) = true := decide_eq_true c45
        clear c45
        replace H := Option.bind_eq_some_iff.mp H
        obtain ⟨t614, A460, H⟩ := H
        (try dsimp only at H)
        have A46 := Aside0.mk A460
        clear A460
        by_cases c47 : (rd t608 x180_2) = t614
        rotate_left
        ·rw [if_neg c47] at H
         have c47b0 : ((rd t608 x180_2) == t614) = false := beq_eq_false_iff_ne.mpr c47
         have c47b1 : ((rd t608 x180_2) != t614) = true := bne_iff_ne.mpr c47
         exact absurd ((Option.some.inj H).trans HRT.out) (by decide)
        rw [if_pos c47] at H
        have c47b0 : ((rd t608 x180_2) == t614) = true := beq_iff_eq.mpr c47
        have c47b1 : ((rd t608 x180_2) != t614) = false := bne_eq_false_iff_eq.mpr c47
        clear c47
        have H' := Aside0.mk H
        clear H
        have p612 : 0 ≤ (x180_2 : Int) := of_decide_eq_true (by first | (with_reducible assumption) | assumption)
        have q612 : x180_2 < (t581.length : Int) := of_decide_eq_true (by first | (with_reducible assumption) | assumption)
        obtain ⟨ad612, e612, hx612_0⟩ := Kd.at_int (Kd.R_reads' HO_178.out).2.2 x180_2 p612 q612
        cases e612
        replace p612 := eq_true p612
        replace q612 := eq_true q612
        obtain ⟨Ao48, co48, eo48⟩ := Kd.R_slice HO_20.out
        subst eo48
        have p613 : 0 ≤ (x180_2 : Int) := of_decide_eq_true (by first | (with_reducible assumption) | assumption)
        have q613 : x180_2 < (t608.length : Int) := of_decide_eq_true (by first | (with_reducible assumption) | assumption)
        obtain ⟨ad613, e613, hx613_0⟩ := Kd.at_int (Kd.R_reads' HO_20.out).2.2 x180_2 p613 q613
        cases e613
        replace p613 := eq_true p613
        replace q613 := eq_true q613
        go_wp2_with (first | (go_at_call 63; (with_reducible refine (laws_iWrap.calls (rd t581 x180_2) t582 t614 _ A46.out).mono ?_); rintro e w' ⟨rfl, ⟨nd, rfl⟩⟩; (try exact xD)))
        repeat (go_quiet (first | (go_at_call 63; (with_reducible refine (laws_iWrap.calls (rd t581 x180_2) t582 t614 _ A46.out).mono ?_); rintro e w' ⟨rfl, ⟨nd, rfl⟩⟩; (try exact xD))); try go_wp2_with (first | (go_at_call 63; (with_reducible refine (laws_iWrap.calls (rd t581 x180_2) t582 t614 _ A46.out).mono ?_); rintro e w' ⟨rfl, ⟨nd, rfl⟩⟩; (try exact xD))))
        go_roundg k2
        case measure => have := HJ11.out; have := HK2.out; omega
        case rel => exact ⟨(wrap64 (x180_2 + 1)), (by first | rfl | (simp; done) | (simp [*]; done)), H', ⟨by have := HJ11.out; have := HK2.out; omega⟩, ⟨xR HO_5.out⟩, ⟨xR HO_8.out⟩, ⟨xR HO_12.out⟩, ⟨xR HO_20.out⟩, ⟨xR HO_178.out⟩, ⟨xB HB.out⟩⟩
    case rest => as_aux_lemma =>
     clear HC38
     try clear c34
     try clear c36
     obtain ⟨kq, HA, HJ37, HO_5, HO_8, HO_12, HB⟩ := hcut
     cases kq with
     | zero => exact absurd HA.out (by simp [laws_FnSumsUndone.j2])
     | succ kj37 =>
      have H := HA.out
      clear HA
      simp only [laws_FnSumsUndone.j2] at H
      replace H := Option.bind_eq_some_iff.mp H
      obtain ⟨⟨t615, t616⟩, A490, H⟩ := H
      (try dsimp only at H)
      have A49 := Aside0.mk A490
      clear A490
      have HC50 := Aside0.mk H
      clear H
      obtain ⟨Ao51, co51, eo51⟩ := Kd.R_slice HO_12.out
      subst eo51
      go_upto_if 201 with (first | (go_at_call 189; (with_reducible refine (impl_WrappedSums.calls kj37 _ _ t594 t582 t583 t615 t616 _ ?side1 ?side2 A49.out).mono ?_); (case side1 => exact xC ((Kd.R_reads' HO_12.out).2.2)); (case side2 => exact (Kd.R_reads' HO_12.out).2.1); rintro e w52 ⟨v617, rfl, ho0, hb⟩; have n0_ := Aside0.mk (Kd.R_elder' (xR HO_5.out) (Kd.R_base ho0) hb); have n1_ := Aside0.mk (Kd.R_elder' (xR HO_8.out) (Kd.R_base ho0) hb); have n2_ := Aside0.mk (Kd.R_elder' (xR HO_12.out) (Kd.R_base ho0) hb); have n3_ := Aside0.mk (Kd.R_lower (Kd.R_new' (Kd.R_new' (Kd.R_new' ho0 (Kd.R_lt (xR HO_5.out))) (Kd.R_lt (xR HO_8.out))) (Kd.R_lt (xR HO_12.out))) (below_size (xB HB.out))); have n4_ := Aside0.mk (below_step (xB HB.out) hb); clear HO_5; clear HO_8; clear HO_12; clear HB; have HO_5 := n0_; have HO_8 := n1_; have HO_12 := n2_; have HO618 := n3_; have HB := n4_; clear n0_ n1_ n2_ n3_ n4_; (try clear hb); (try clear hb2); (try clear hk); (try clear hi); (try clear ho0)))
      repeat (go_quiet (first | (go_at_call 189; (with_reducible refine (impl_WrappedSums.calls kj37 _ _ t594 t582 t583 t615 t616 _ ?side1 ?side2 A49.out).mono ?_); (case side1 => exact xC ((Kd.R_reads' HO_12.out).2.2)); (case side2 => exact (Kd.R_reads' HO_12.out).2.1); rintro e w52 ⟨v617, rfl, ho0, hb⟩; have n0_ := Aside0.mk (Kd.R_elder' (xR HO_5.out) (Kd.R_base ho0) hb); have n1_ := Aside0.mk (Kd.R_elder' (xR HO_8.out) (Kd.R_base ho0) hb); have n2_ := Aside0.mk (Kd.R_elder' (xR HO_12.out) (Kd.R_base ho0) hb); have n3_ := Aside0.mk (Kd.R_lower (Kd.R_new' (Kd.R_new' (Kd.R_new' ho0 (Kd.R_lt (xR HO_5.out))) (Kd.R_lt (xR HO_8.out))) (Kd.R_lt (xR HO_12.out))) (below_size (xB HB.out))); have n4_ := Aside0.mk (below_step (xB HB.out) hb); clear HO_5; clear HO_8; clear HO_12; clear HB; have HO_5 := n0_; have HO_8 := n1_; have HO_12 := n2_; have HO618 := n3_; have HB := n4_; clear n0_ n1_ n2_ n3_ n4_; (try clear hb); (try clear hb2); (try clear hk); (try clear hi); (try clear ho0))); go_upto_if 201 with (first | (go_at_call 189; (with_reducible refine (impl_WrappedSums.calls kj37 _ _ t594 t582 t583 t615 t616 _ ?side1 ?side2 A49.out).mono ?_); (case side1 => exact xC ((Kd.R_reads' HO_12.out).2.2)); (case side2 => exact (Kd.R_reads' HO_12.out).2.1); rintro e w52 ⟨v617, rfl, ho0, hb⟩; have n0_ := Aside0.mk (Kd.R_elder' (xR HO_5.out) (Kd.R_base ho0) hb); have n1_ := Aside0.mk (Kd.R_elder' (xR HO_8.out) (Kd.R_base ho0) hb); have n2_ := Aside0.mk (Kd.R_elder' (xR HO_12.out) (Kd.R_base ho0) hb); have n3_ := Aside0.mk (Kd.R_lower (Kd.R_new' (Kd.R_new' (Kd.R_new' ho0 (Kd.R_lt (xR HO_5.out))) (Kd.R_lt (xR HO_8.out))) (Kd.R_lt (xR HO_12.out))) (below_size (xB HB.out))); have n4_ := Aside0.mk (below_step (xB HB.out) hb); clear HO_5; clear HO_8; clear HO_12; clear HB; have HO_5 := n0_; have HO_8 := n1_; have HO_12 := n2_; have HO618 := n3_; have HB := n4_; clear n0_ n1_ n2_ n3_ n4_; (try clear hb); (try clear hb2); (try clear hk); (try clear hi); (try clear ho0))))
      (try simp only [Act.put, List.setIfInBounds_toArray, List.set_cons_zero, List.set_cons_succ])
      go_cut [] from 181 to 201 (fun wc => ∃ (kq : Nat), Aside0 (laws_FnSumsUndone.j4 kq l1 t581 t583 t586 t602 = some r) ∧ Aside0 (kq ≤ kj37) ∧ Aside0 (Kd.R (Kd.int .i64) 3 wc w.heap.size (fun k_ => some k_ ≠ ((.slice Ao39 t586.length co39) : Value).ownBlock) (.slice Ao14 t581.length co14) t581) ∧ Aside0 (Kd.R (Kd.int .i64) 3 wc w.heap.size (fun k_ => some k_ ≠ ((.slice Ao14 t581.length co14) : Value).ownBlock) (.slice Ao39 t586.length co39) t586) ∧ Aside0 (Below w.heap.size w wc))
      case first => as_aux_lemma =>
       have H := HC50.out
       clear HC50
       by_cases c53 : t616 = true
       rotate_left
       ·as_aux_lemma =>
         replace c53 := Bool.eq_false_iff.mpr c53
         subst c53
         have H1 := H
         rw [if_neg (show ¬ (false = true) by decide)] at H1
         clear H
         have H := H1
         clear H1
         have H' := Aside0.mk H
         clear H
         go_wp2
         repeat (go_quiet (fail); try go_wp2)
         go_meet
         case rel => exact ⟨_, H', ⟨by have := HJ11.out; have := HJ37.out; first | omega | exact Nat.le_refl _⟩, ⟨by (with_reducible repeat (first | apply Kd.R_alloc | apply Kd.R_drewN | apply Kd.R_drew)); exact Kd.R_mono HO_5.out (fun _ hk => hk.1.1)⟩, ⟨by (with_reducible repeat (first | apply Kd.R_alloc | apply Kd.R_drewN | apply Kd.R_drew)); exact Kd.R_mono HO_8.out (fun _ hk => hk.1.1)⟩, ⟨xB HB.out⟩⟩
       subst c53
       have H1 := H
       rw [if_pos rfl] at H1
       clear H
       have H := H1
       clear H1
       have H' := Aside0.mk H
       clear H
       go_wp2
       repeat (go_quiet (fail); try go_wp2)
       go_loopg [204] kj37 (fun kq v204 w' => ∃ (x204_3 : Int), v204 = .int .i64 x204_3 ∧ Aside0 (laws_FnSumsUndone.l1 kq l1 t581 t582 t583 t586 t602 t615 t581 (t581.length : Int) x204_3 = some r) ∧ Aside0 (kq ≤ kj37) ∧ Aside0 (Kd.R (Kd.int .i64) 3 w' w.heap.size (fun k_ => some k_ ≠ ((.slice Ao39 t586.length co39) : Value).ownBlock ∧ some k_ ≠ (v617 : Value).ownBlock) (.slice Ao14 t581.length co14) t581) ∧ Aside0 (Kd.R (Kd.int .i64) 3 w' w.heap.size (fun k_ => some k_ ≠ ((.slice Ao14 t581.length co14) : Value).ownBlock ∧ some k_ ≠ (v617 : Value).ownBlock ∧ some k_ ≠ ((.slice Ao14 t581.length co14) : Value).ownBlock) (.slice Ao39 t586.length co39) t586) ∧ Aside0 (Kd.R (Kd.int .i64) 3 w' w.heap.size (fun k_ => some k_ ≠ ((.slice Ao14 t581.length co14) : Value).ownBlock ∧ some k_ ≠ ((.slice Ao39 t586.length co39) : Value).ownBlock ∧ some k_ ≠ ((.slice Ao14 t581.length co14) : Value).ownBlock) v617 t615) ∧ Aside0 (Kd.R (Kd.int .i64) 3 w' w.heap.size (fun k_ => some k_ ≠ ((.slice Ao39 t586.length co39) : Value).ownBlock ∧ some k_ ≠ (v617 : Value).ownBlock) (.slice Ao14 t581.length co14) t581) ∧ Aside0 (Below w.heap.size w w'))
       case atStart => exact ⟨(0), (by first | rfl | (simp; done) | (simp [*]; done)), H', ⟨Nat.le_refl _⟩, ⟨by (with_reducible repeat (first | apply Kd.R_alloc | apply Kd.R_drewN | apply Kd.R_drew)); exact Kd.R_mono HO_5.out (fun _ hk => ⟨hk.1.1, hk.2⟩)⟩, ⟨by (with_reducible repeat (first | apply Kd.R_alloc | apply Kd.R_drewN | apply Kd.R_drew)); exact Kd.R_mono HO_8.out (fun _ hk => ⟨hk.1.1, ⟨hk.2, hk.1.1⟩⟩)⟩, ⟨by (with_reducible repeat (first | apply Kd.R_alloc | apply Kd.R_drewN | apply Kd.R_drew)); exact Kd.R_mono HO618.out (fun _ hk => ⟨hk.1.1.2, ⟨hk.1.2, hk.1.1.2⟩⟩)⟩, ⟨by (with_reducible repeat (first | apply Kd.R_alloc | apply Kd.R_drewN | apply Kd.R_drew)); exact Kd.R_mono HO_5.out (fun _ hk => ⟨hk.1.1, hk.2⟩)⟩, ⟨xB HB.out⟩⟩
       case round =>
        clear H'
        try clear c53
        obtain ⟨x204_3, rfl, HA, HK3, HO_5, HO_8, HO_24, HO_202, HB⟩ := hrel
        cases gk with
        | zero => exact absurd HA.out (by simp [laws_FnSumsUndone.l1])
        | succ k3 =>
         have H := HA.out
         clear HA
         simp only [laws_FnSumsUndone.l1] at H
         by_cases c54 : x204_3 < (t581.length : Int)
         rotate_left
         ·as_aux_lemma =>
           rw [if_neg c54] at H
           have c54b0 : decide (x204_3 < (t581.length : Int)) = false := decide_eq_false c54
           clear c54
           (first | rw [c54b0] | (simp only [i64_w, i32_w]; rw [c54b0]) | skip)
           have H' := Aside0.mk H
           clear H
           go_wp2
           repeat (go_quiet (fail); try go_wp2)
           go_meet
           case rel => exact ⟨_, H', ⟨by have := HJ11.out; have := HJ37.out; have := HK3.out; first | omega | exact Nat.le_refl _⟩, ⟨by (with_reducible repeat (first | apply Kd.R_alloc | apply Kd.R_drewN | apply Kd.R_drew)); exact Kd.R_mono HO_5.out (fun _ hk => hk.1)⟩, ⟨by (with_reducible repeat (first | apply Kd.R_alloc | apply Kd.R_drewN | apply Kd.R_drew)); exact Kd.R_mono HO_8.out (fun _ hk => hk.1)⟩, ⟨xB HB.out⟩⟩
         as_aux_lemma =>
          rw [if_pos c54] at H
          have c54b0 : decide (x204_3 < (t581.length : Int)) = true := decide_eq_true c54
          clear c54
          (first | rw [c54b0] | (simp only [i64_w, i32_w]; rw [c54b0]) | skip)
          by_cases c55 : 0 ≤ x204_3
          rotate_left
          ·rw [if_neg c55] at H
           exact absurd H (by simp)
          rw [if_pos c55] at H
          have c55b0 : decide (0 ≤ x204_3) = true := decide_eq_true c55
          clear c55
          by_cases c56 : x204_3 < (t581.length : Int)
          rotate_left
          ·rw [if_neg c56] at H
           exact absurd H (by simp)
          rw [if_pos c56] at H
          have c56b0 : decide (x204_3 < (t581.length : Int)) = true := decide_eq_true c56
          clear c56
          by_cases c57 : x204_3 < (t615.length : Int)
          rotate_left
          ·rw [if_neg c57] at H
           exact absurd H (by simp)
          rw [if_pos c57] at H
          have c57b0 : decide (x204_3 < (t615.length : Int)) = true := decide_eq_true c57
          clear c57
          replace H := Option.bind_eq_some_iff.mp H
          obtain ⟨t621, A580, H⟩ := H
          (try dsimp only at H)
          have A58 := Aside0.mk A580
          clear A580
          by_cases c59 : (rd t615 x204_3) = t621
          rotate_left
          ·rw [if_neg c59] at H
           have c59b0 : ((rd t615 x204_3) == t621) = false := beq_eq_false_iff_ne.mpr c59
           have c59b1 : ((rd t615 x204_3) != t621) = true := bne_iff_ne.mpr c59
           exact absurd ((Option.some.inj H).trans HRT.out) (by decide)
          rw [if_pos c59] at H
          have c59b0 : ((rd t615 x204_3) == t621) = true := beq_iff_eq.mpr c59
          have c59b1 : ((rd t615 x204_3) != t621) = false := bne_eq_false_iff_eq.mpr c59
          clear c59
          have H' := Aside0.mk H
          clear H
          have p619 : 0 ≤ (x204_3 : Int) := of_decide_eq_true (by first | (with_reducible assumption) | assumption)
          have q619 : x204_3 < (t581.length : Int) := of_decide_eq_true (by first | (with_reducible assumption) | assumption)
          obtain ⟨ad619, e619, hx619_0⟩ := Kd.at_int (Kd.R_reads' HO_202.out).2.2 x204_3 p619 q619
          cases e619
          replace p619 := eq_true p619
          replace q619 := eq_true q619
          obtain ⟨Ao60, co60, eo60⟩ := Kd.R_slice HO_24.out
          subst eo60
          have p620 : 0 ≤ (x204_3 : Int) := of_decide_eq_true (by first | (with_reducible assumption) | assumption)
          have q620 : x204_3 < (t615.length : Int) := of_decide_eq_true (by first | (with_reducible assumption) | assumption)
          obtain ⟨ad620, e620, hx620_0⟩ := Kd.at_int (Kd.R_reads' HO_24.out).2.2 x204_3 p620 q620
          cases e620
          replace p620 := eq_true p620
          replace q620 := eq_true q620
          go_wp2_with (first | (go_at_call 63; (with_reducible refine (laws_iWrap.calls (rd t581 x204_3) t582 t621 _ A58.out).mono ?_); rintro e w' ⟨rfl, ⟨nd, rfl⟩⟩; (try exact xD)))
          repeat (go_quiet (first | (go_at_call 63; (with_reducible refine (laws_iWrap.calls (rd t581 x204_3) t582 t621 _ A58.out).mono ?_); rintro e w' ⟨rfl, ⟨nd, rfl⟩⟩; (try exact xD))); try go_wp2_with (first | (go_at_call 63; (with_reducible refine (laws_iWrap.calls (rd t581 x204_3) t582 t621 _ A58.out).mono ?_); rintro e w' ⟨rfl, ⟨nd, rfl⟩⟩; (try exact xD))))
          go_roundg k3
          case measure => have := HJ11.out; have := HJ37.out; have := HK3.out; omega
          case rel => exact ⟨(wrap64 (x204_3 + 1)), (by first | rfl | (simp; done) | (simp [*]; done)), H', ⟨by have := HJ11.out; have := HJ37.out; have := HK3.out; omega⟩, ⟨xR HO_5.out⟩, ⟨xR HO_8.out⟩, ⟨xR HO_24.out⟩, ⟨xR HO_202.out⟩, ⟨xB HB.out⟩⟩
      case rest => as_aux_lemma =>
       clear HC50
       obtain ⟨kq, HA, HJ49, HO_5, HO_8, HB⟩ := hcut
       cases kq with
       | zero => exact absurd HA.out (by simp [laws_FnSumsUndone.j4])
       | succ kj49 =>
        have H := HA.out
        clear HA
        simp only [laws_FnSumsUndone.j4] at H
        have HC61 := Aside0.mk H
        clear H
        go_upto_region 29 with (fail)
        repeat (go_quiet (fail); go_upto_region 29 with (fail))
        go_cut [223] from 205 to 217 (fun v223 wc => ∃ (kq : Nat) (x223_60 : Bool), v223 = .bool x223_60 ∧ Aside0 (laws_FnSumsUndone.j5 kq l1 t581 t586 x223_60 = some r) ∧ Aside0 (kq ≤ kj49) ∧ Aside0 (Kd.R (Kd.int .i64) 3 wc w.heap.size (fun k_ => some k_ ≠ ((.slice Ao39 t586.length co39) : Value).ownBlock) (.slice Ao14 t581.length co14) t581) ∧ Aside0 (Kd.R (Kd.int .i64) 3 wc w.heap.size (fun k_ => some k_ ≠ ((.slice Ao14 t581.length co14) : Value).ownBlock) (.slice Ao39 t586.length co39) t586) ∧ Aside0 (Below w.heap.size w wc))
        case first => as_aux_lemma =>
         have H := HC61.out
         clear HC61
         by_cases c62 : t583 = 1
         rotate_left
         ·as_aux_lemma =>
           rw [if_neg c62] at H
           have c62b0 : (t583 == 1) = false := beq_eq_false_iff_ne.mpr c62
           have c62b1 : (t583 != 1) = true := bne_iff_ne.mpr c62
           (first | rw [c62b0] | (simp only [i64_w, i32_w]; rw [c62b0]) | skip)
           have H' := Aside0.mk H
           clear H
           go_wp2
           repeat (go_quiet (fail); try go_wp2)
           go_meet
           case rel => exact ⟨_, (false), (by first | rfl | (simp; done) | (simp [*]; done)), H', ⟨by have := HJ11.out; have := HJ37.out; have := HJ49.out; first | omega | exact Nat.le_refl _⟩, ⟨xR HO_5.out⟩, ⟨xR HO_8.out⟩, ⟨xB HB.out⟩⟩
         as_aux_lemma =>
          rw [if_pos c62] at H
          have c62b0 : (t583 == 1) = true := beq_iff_eq.mpr c62
          have c62b1 : (t583 != 1) = false := bne_eq_false_iff_eq.mpr c62
          clear c62
          (first | rw [c62b0] | (simp only [i64_w, i32_w]; rw [c62b0]) | skip)
          have H' := Aside0.mk H
          clear H
          go_wp2
          repeat (go_quiet (fail); try go_wp2)
          go_meet
          case rel => exact ⟨_, ((t602 == 0)), (by first | rfl | (simp; done) | (simp [*]; done)), H', ⟨by have := HJ11.out; have := HJ37.out; have := HJ49.out; first | omega | exact Nat.le_refl _⟩, ⟨xR HO_5.out⟩, ⟨xR HO_8.out⟩, ⟨xB HB.out⟩⟩
        case rest => as_aux_lemma =>
         clear HC61
         obtain ⟨kq, x223_60, rfl, HA, HJ60, HO_5, HO_8, HB⟩ := hcut
         cases kq with
         | zero => exact absurd HA.out (by simp [laws_FnSumsUndone.j5])
         | succ kj60 =>
          have H := HA.out
          clear HA
          simp only [laws_FnSumsUndone.j5] at H
          by_cases c63 : x223_60 = true
          rotate_left
          ·as_aux_lemma =>
            replace c63 := Bool.eq_false_iff.mpr c63
            subst c63
            have H1 := H
            rw [if_neg (show ¬ (false = true) by decide)] at H1
            clear H
            have H := H1
            clear H1
            have H' := Aside0.mk H
            clear H
            go_wp2
            repeat (go_quiet (fail); try go_wp2)
            go_meet
            case rel => exact ⟨_, H', ⟨by have := HJ11.out; have := HJ37.out; have := HJ49.out; have := HJ60.out; first | omega | exact Nat.le_refl _⟩, ⟨xB HB.out⟩⟩
          as_aux_lemma =>
           subst c63
           have H1 := H
           rw [if_pos rfl] at H1
           clear H
           have H := H1
           clear H1
           replace H := Option.bind_eq_some_iff.mp H
           obtain ⟨⟨t622, t623⟩, A640, H⟩ := H
           (try dsimp only at H)
           have A64 := Aside0.mk A640
           clear A640
           by_cases c65 : t623 = true
           rotate_left
           ·as_aux_lemma =>
              replace c65 := Bool.eq_false_iff.mpr c65
              subst c65
              have H1 := H
              rw [if_neg (show ¬ (false = true) by decide)] at H1
              clear H
              have H := H1
              clear H1
              have H' := Aside0.mk H
              clear H
              go_wp2_with (first | (go_at_call 195; (with_reducible refine (impl_RunningSums.calls kj60 _ _ t581 t622 false _ ?side1 ?side2 A64.out).mono ?_); (case side1 => exact xC ((Kd.R_reads' HO_5.out).2.2)); (case side2 => exact (Kd.R_reads' HO_5.out).2.1); rintro e w70 ⟨v624, rfl, ho0, hb⟩; have n0_ := Aside0.mk (Kd.R_elder' (xR HO_5.out) (Kd.R_base ho0) hb); have n1_ := Aside0.mk (Kd.R_elder' (xR HO_8.out) (Kd.R_base ho0) hb); have n2_ := Aside0.mk (Kd.R_lower (Kd.R_new' (Kd.R_new' ho0 (Kd.R_lt (xR HO_5.out))) (Kd.R_lt (xR HO_8.out))) (below_size (xB HB.out))); have n3_ := Aside0.mk (below_step (xB HB.out) hb); clear HO_5; clear HO_8; clear HB; have HO_5 := n0_; have HO_8 := n1_; have HO625 := n2_; have HB := n3_; clear n0_ n1_ n2_ n3_; (try clear hb); (try clear hb2); (try clear hk); (try clear hi); (try clear ho0)))
              repeat (go_quiet (first | (go_at_call 195; (with_reducible refine (impl_RunningSums.calls kj60 _ _ t581 t622 false _ ?side1 ?side2 A64.out).mono ?_); (case side1 => exact xC ((Kd.R_reads' HO_5.out).2.2)); (case side2 => exact (Kd.R_reads' HO_5.out).2.1); rintro e w70 ⟨v624, rfl, ho0, hb⟩; have n0_ := Aside0.mk (Kd.R_elder' (xR HO_5.out) (Kd.R_base ho0) hb); have n1_ := Aside0.mk (Kd.R_elder' (xR HO_8.out) (Kd.R_base ho0) hb); have n2_ := Aside0.mk (Kd.R_lower (Kd.R_new' (Kd.R_new' ho0 (Kd.R_lt (xR HO_5.out))) (Kd.R_lt (xR HO_8.out))) (below_size (xB HB.out))); have n3_ := Aside0.mk (below_step (xB HB.out) hb); clear HO_5; clear HO_8; clear HB; have HO_5 := n0_; have HO_8 := n1_; have HO625 := n2_; have HB := n3_; clear n0_ n1_ n2_ n3_; (try clear hb); (try clear hb2); (try clear hk); (try clear hi); (try clear ho0))); try go_wp2_with (first | (go_at_call 195; (with_reducible refine (impl_RunningSums.calls kj60 _ _ t581 t622 false _ ?side1 ?side2 A64.out).mono ?_); (case side1 => exact xC ((Kd.R_reads' HO_5.out).2.2)); (case side2 => exact (Kd.R_reads' HO_5.out).2.1); rintro e w70 ⟨v624, rfl, ho0, hb⟩; have n0_ := Aside0.mk (Kd.R_elder' (xR HO_5.out) (Kd.R_base ho0) hb); have n1_ := Aside0.mk (Kd.R_elder' (xR HO_8.out) (Kd.R_base ho0) hb); have n2_ := Aside0.mk (Kd.R_lower (Kd.R_new' (Kd.R_new' ho0 (Kd.R_lt (xR HO_5.out))) (Kd.R_lt (xR HO_8.out))) (below_size (xB HB.out))); have n3_ := Aside0.mk (below_step (xB HB.out) hb); clear HO_5; clear HO_8; clear HB; have HO_5 := n0_; have HO_8 := n1_; have HO625 := n2_; have HB := n3_; clear n0_ n1_ n2_ n3_; (try clear hb); (try clear hb2); (try clear hk); (try clear hi); (try clear ho0))))
              go_meet
              case rel => exact ⟨_, H', ⟨by have := HJ11.out; have := HJ37.out; have := HJ49.out; have := HJ60.out; first | omega | exact Nat.le_refl _⟩, ⟨xB HB.out⟩⟩
           subst c65
           have H1 := H
           rw [if_pos rfl] at H1
           clear H
           have H := H1
           clear H1
           replace H := Option.bind_eq_some_iff.mp H
           obtain ⟨t626, A660, H⟩ := H
           (try dsimp only at H)
           have A66 := Aside0.mk A660
           clear A660
           by_cases c67 : t626 = true
           rotate_left
           ·replace c67 := Bool.eq_false_iff.mpr c67
            subst c67
            have H1 := H
            rw [if_neg (show ¬ (false = true) by decide)] at H1
            clear H
            have H := H1
            clear H1
            exact absurd ((Option.some.inj H).trans HRT.out) (by decide)
           subst c67
           have H1 := H
           rw [if_pos rfl] at H1
           clear H
           have H := H1
           clear H1
           have H' := Aside0.mk H
           clear H
           go_wp2_with (first | (go_at_call 195; (with_reducible refine (impl_RunningSums.calls kj60 _ _ t581 t622 true _ ?side1 ?side2 A64.out).mono ?_); (case side1 => exact xC ((Kd.R_reads' HO_5.out).2.2)); (case side2 => exact (Kd.R_reads' HO_5.out).2.1); rintro e w68 ⟨v624, rfl, ho0, hb⟩; have n0_ := Aside0.mk (Kd.R_elder' (xR HO_5.out) (Kd.R_base ho0) hb); have n1_ := Aside0.mk (Kd.R_elder' (xR HO_8.out) (Kd.R_base ho0) hb); have n2_ := Aside0.mk (Kd.R_lower (Kd.R_new' (Kd.R_new' ho0 (Kd.R_lt (xR HO_5.out))) (Kd.R_lt (xR HO_8.out))) (below_size (xB HB.out))); have n3_ := Aside0.mk (below_step (xB HB.out) hb); clear HO_5; clear HO_8; clear HB; have HO_5 := n0_; have HO_8 := n1_; have HO625 := n2_; have HB := n3_; clear n0_ n1_ n2_ n3_; (try clear hb); (try clear hb2); (try clear hk); (try clear hi); (try clear ho0); obtain ⟨Ao69, co69, eo69⟩ := Kd.R_slice HO625.out; subst eo69) | (go_at_call 21; (with_reducible refine (laws_iSame.calls kj60 _ _ t622 _ _ t586 true _ ?side1 ?side2 ?side3 ?side4 A66.out).mono ?_); (case side1 => exact xC ((Kd.R_reads' HO625.out).2.2)); (case side2 => exact (Kd.R_reads' HO625.out).2.1); (case side3 => exact xC ((Kd.R_reads' HO_8.out).2.2)); (case side4 => exact (Kd.R_reads' HO_8.out).2.1); rintro e w' ⟨rfl, ⟨nd, rfl⟩⟩; (try exact xD)))
           repeat (go_quiet (first | (go_at_call 195; (with_reducible refine (impl_RunningSums.calls kj60 _ _ t581 t622 true _ ?side1 ?side2 A64.out).mono ?_); (case side1 => exact xC ((Kd.R_reads' HO_5.out).2.2)); (case side2 => exact (Kd.R_reads' HO_5.out).2.1); rintro e w68 ⟨v624, rfl, ho0, hb⟩; have n0_ := Aside0.mk (Kd.R_elder' (xR HO_5.out) (Kd.R_base ho0) hb); have n1_ := Aside0.mk (Kd.R_elder' (xR HO_8.out) (Kd.R_base ho0) hb); have n2_ := Aside0.mk (Kd.R_lower (Kd.R_new' (Kd.R_new' ho0 (Kd.R_lt (xR HO_5.out))) (Kd.R_lt (xR HO_8.out))) (below_size (xB HB.out))); have n3_ := Aside0.mk (below_step (xB HB.out) hb); clear HO_5; clear HO_8; clear HB; have HO_5 := n0_; have HO_8 := n1_; have HO625 := n2_; have HB := n3_; clear n0_ n1_ n2_ n3_; (try clear hb); (try clear hb2); (try clear hk); (try clear hi); (try clear ho0); obtain ⟨Ao69, co69, eo69⟩ := Kd.R_slice HO625.out; subst eo69) | (go_at_call 21; (with_reducible refine (laws_iSame.calls kj60 _ _ t622 _ _ t586 true _ ?side1 ?side2 ?side3 ?side4 A66.out).mono ?_); (case side1 => exact xC ((Kd.R_reads' HO625.out).2.2)); (case side2 => exact (Kd.R_reads' HO625.out).2.1); (case side3 => exact xC ((Kd.R_reads' HO_8.out).2.2)); (case side4 => exact (Kd.R_reads' HO_8.out).2.1); rintro e w' ⟨rfl, ⟨nd, rfl⟩⟩; (try exact xD))); try go_wp2_with (first | (go_at_call 195; (with_reducible refine (impl_RunningSums.calls kj60 _ _ t581 t622 true _ ?side1 ?side2 A64.out).mono ?_); (case side1 => exact xC ((Kd.R_reads' HO_5.out).2.2)); (case side2 => exact (Kd.R_reads' HO_5.out).2.1); rintro e w68 ⟨v624, rfl, ho0, hb⟩; have n0_ := Aside0.mk (Kd.R_elder' (xR HO_5.out) (Kd.R_base ho0) hb); have n1_ := Aside0.mk (Kd.R_elder' (xR HO_8.out) (Kd.R_base ho0) hb); have n2_ := Aside0.mk (Kd.R_lower (Kd.R_new' (Kd.R_new' ho0 (Kd.R_lt (xR HO_5.out))) (Kd.R_lt (xR HO_8.out))) (below_size (xB HB.out))); have n3_ := Aside0.mk (below_step (xB HB.out) hb); clear HO_5; clear HO_8; clear HB; have HO_5 := n0_; have HO_8 := n1_; have HO625 := n2_; have HB := n3_; clear n0_ n1_ n2_ n3_; (try clear hb); (try clear hb2); (try clear hk); (try clear hi); (try clear ho0); obtain ⟨Ao69, co69, eo69⟩ := Kd.R_slice HO625.out; subst eo69) | (go_at_call 21; (with_reducible refine (laws_iSame.calls kj60 _ _ t622 _ _ t586 true _ ?side1 ?side2 ?side3 ?side4 A66.out).mono ?_); (case side1 => exact xC ((Kd.R_reads' HO625.out).2.2)); (case side2 => exact (Kd.R_reads' HO625.out).2.1); (case side3 => exact xC ((Kd.R_reads' HO_8.out).2.2)); (case side4 => exact (Kd.R_reads' HO_8.out).2.1); rintro e w' ⟨rfl, ⟨nd, rfl⟩⟩; (try exact xD))))
           go_meet
           case rel => exact ⟨_, H', ⟨by have := HJ11.out; have := HJ37.out; have := HJ49.out; have := HJ60.out; first | omega | exact Nat.le_refl _⟩, ⟨xB HB.out⟩⟩
   case rest => as_aux_lemma =>
    clear HC35
    try clear c34
    obtain ⟨kq, HA, HJ34, HB⟩ := hcut
    cases kq with
    | zero => exact absurd HA.out (by simp [laws_FnSumsUndone.j6])
    | succ kj34 =>
     have H := HA.out
     clear HA
     simp only [laws_FnSumsUndone.j6] at H
     replace H := Option.bind_eq_some_iff.mp H
     obtain ⟨⟨t627, t628⟩, A710, H⟩ := H
     (try dsimp only at H)
     have A71 := Aside0.mk A710
     clear A710
     replace H := Option.bind_eq_some_iff.mp H
     obtain ⟨⟨t629, t630⟩, A720, H⟩ := H
     (try dsimp only at H)
     have A72 := Aside0.mk A720
     clear A720
     replace H := Option.bind_eq_some_iff.mp H
     obtain ⟨⟨t633, t634⟩, A730, H⟩ := H
     (try dsimp only at H)
     have A73 := Aside0.mk A730
     clear A730
     replace H := Option.bind_eq_some_iff.mp H
     obtain ⟨⟨t637, t638⟩, A740, H⟩ := H
     (try dsimp only at H)
     have A74 := Aside0.mk A740
     clear A740
     replace H := Option.bind_eq_some_iff.mp H
     obtain ⟨⟨t639, t640⟩, A750, H⟩ := H
     (try dsimp only at H)
     have A75 := Aside0.mk A750
     clear A750
     replace H := Option.bind_eq_some_iff.mp H
     obtain ⟨⟨t641, t642, t643⟩, A760, H⟩ := H
     (try dsimp only at H)
     have A76 := Aside0.mk A760
     clear A760
     replace H := Option.bind_eq_some_iff.mp H
     obtain ⟨⟨t644, t645, t646⟩, A770, H⟩ := H
     (try dsimp only at H)
     have A77 := Aside0.mk A770
     clear A770
     have HC78 := Aside0.mk H
     clear H
     go_upto_region 40 with (first | (go_at_call 196; (with_reducible refine (spec_DrawBoxAnswer.calls _ _ l1 t627 t628 _ ?side1 ?side2 A71.out).mono ?_); (case side1 => exact xC (Kd.C_below HR1.out HB.out)); (case side2 => exact HC1.out); rintro e w79 ⟨rfl, hb⟩; have n0_ := Aside0.mk (below_step (xB HB.out) hb); clear HB; have HB := n0_; clear n0_; (try clear hb); (try clear hb2); (try clear hk); (try clear hi)) | (go_at_call 197; (with_reducible refine (impl_BoxAnswer.calls kj34 t627 t628 t629 t630 _ A72.out).mono ?_); rintro e w80 ⟨v631, rfl, ho0, hb⟩; have n0_ := Aside0.mk (Kd.R_lower ho0 (below_size (xB HB.out))); have n1_ := Aside0.mk (below_step (xB HB.out) hb); clear HB; have HO632 := n0_; have HB := n1_; clear n0_ n1_; (try clear hb); (try clear hb2); (try clear hk); (try clear hi); (try clear ho0)) | (go_at_call 198; (with_reducible refine (spec_BoxAnswer.calls kj34 t627 t628 t633 t634 _ A73.out).mono ?_); rintro e w81 ⟨v635, rfl, ho0, hb⟩; have n0_ := Aside0.mk (Kd.R_elder' (xR HO632.out) (Kd.R_base ho0) hb); have n1_ := Aside0.mk (Kd.R_lower (Kd.R_new' ho0 (Kd.R_lt (xR HO632.out))) (below_size (xB HB.out))); have n2_ := Aside0.mk (below_step (xB HB.out) hb); clear HO632; clear HB; have HO632 := n0_; have HO636 := n1_; have HB := n2_; clear n0_ n1_ n2_; (try clear hb); (try clear hb2); (try clear hk); (try clear hi); (try clear ho0)) | (go_at_call 199; (with_reducible refine (impl_CombGain.calls kj34 t627 t628 t637 t638 _ A74.out).mono ?_); rintro e w82 ⟨rfl, hb⟩; have n0_ := Aside0.mk (Kd.R_below (xR HO632.out) hb); have n1_ := Aside0.mk (Kd.R_below (xR HO636.out) hb); have n2_ := Aside0.mk (below_step (xB HB.out) hb); clear HO632; clear HO636; clear HB; have HO632 := n0_; have HO636 := n1_; have HB := n2_; clear n0_ n1_ n2_; (try clear hb); (try clear hb2); (try clear hk); (try clear hi)) | (go_at_call 200; (with_reducible refine (spec_CombGain.calls kj34 t627 t628 t639 t640 _ A75.out).mono ?_); rintro e w' ⟨rfl, ⟨nd, rfl⟩⟩; (try exact xD)) | (go_at_call 201; (with_reducible refine (impl_BoxDroop.calls kj34 t627 t628 t641 t642 t643 _ A76.out).mono ?_); rintro e w83 ⟨rfl, hb⟩; have n0_ := Aside0.mk (Kd.R_below (xR HO632.out) hb); have n1_ := Aside0.mk (Kd.R_below (xR HO636.out) hb); have n2_ := Aside0.mk (below_step (xB HB.out) hb); clear HO632; clear HO636; clear HB; have HO632 := n0_; have HO636 := n1_; have HB := n2_; clear n0_ n1_ n2_; (try clear hb); (try clear hb2); (try clear hk); (try clear hi)) | (go_at_call 202; (with_reducible refine (spec_BoxDroop.calls kj34 t627 t628 t644 t645 t646 _ A77.out).mono ?_); rintro e w84 ⟨rfl, hb⟩; have n0_ := Aside0.mk (Kd.R_below (xR HO632.out) hb); have n1_ := Aside0.mk (Kd.R_below (xR HO636.out) hb); have n2_ := Aside0.mk (below_step (xB HB.out) hb); clear HO632; clear HO636; clear HB; have HO632 := n0_; have HO636 := n1_; have HB := n2_; clear n0_ n1_ n2_; (try clear hb); (try clear hb2); (try clear hk); (try clear hi)))
     repeat (go_quiet (first | (go_at_call 196; (with_reducible refine (spec_DrawBoxAnswer.calls _ _ l1 t627 t628 _ ?side1 ?side2 A71.out).mono ?_); (case side1 => exact xC (Kd.C_below HR1.out HB.out)); (case side2 => exact HC1.out); rintro e w79 ⟨rfl, hb⟩; have n0_ := Aside0.mk (below_step (xB HB.out) hb); clear HB; have HB := n0_; clear n0_; (try clear hb); (try clear hb2); (try clear hk); (try clear hi)) | (go_at_call 197; (with_reducible refine (impl_BoxAnswer.calls kj34 t627 t628 t629 t630 _ A72.out).mono ?_); rintro e w80 ⟨v631, rfl, ho0, hb⟩; have n0_ := Aside0.mk (Kd.R_lower ho0 (below_size (xB HB.out))); have n1_ := Aside0.mk (below_step (xB HB.out) hb); clear HB; have HO632 := n0_; have HB := n1_; clear n0_ n1_; (try clear hb); (try clear hb2); (try clear hk); (try clear hi); (try clear ho0)) | (go_at_call 198; (with_reducible refine (spec_BoxAnswer.calls kj34 t627 t628 t633 t634 _ A73.out).mono ?_); rintro e w81 ⟨v635, rfl, ho0, hb⟩; have n0_ := Aside0.mk (Kd.R_elder' (xR HO632.out) (Kd.R_base ho0) hb); have n1_ := Aside0.mk (Kd.R_lower (Kd.R_new' ho0 (Kd.R_lt (xR HO632.out))) (below_size (xB HB.out))); have n2_ := Aside0.mk (below_step (xB HB.out) hb); clear HO632; clear HB; have HO632 := n0_; have HO636 := n1_; have HB := n2_; clear n0_ n1_ n2_; (try clear hb); (try clear hb2); (try clear hk); (try clear hi); (try clear ho0)) | (go_at_call 199; (with_reducible refine (impl_CombGain.calls kj34 t627 t628 t637 t638 _ A74.out).mono ?_); rintro e w82 ⟨rfl, hb⟩; have n0_ := Aside0.mk (Kd.R_below (xR HO632.out) hb); have n1_ := Aside0.mk (Kd.R_below (xR HO636.out) hb); have n2_ := Aside0.mk (below_step (xB HB.out) hb); clear HO632; clear HO636; clear HB; have HO632 := n0_; have HO636 := n1_; have HB := n2_; clear n0_ n1_ n2_; (try clear hb); (try clear hb2); (try clear hk); (try clear hi)) | (go_at_call 200; (with_reducible refine (spec_CombGain.calls kj34 t627 t628 t639 t640 _ A75.out).mono ?_); rintro e w' ⟨rfl, ⟨nd, rfl⟩⟩; (try exact xD)) | (go_at_call 201; (with_reducible refine (impl_BoxDroop.calls kj34 t627 t628 t641 t642 t643 _ A76.out).mono ?_); rintro e w83 ⟨rfl, hb⟩; have n0_ := Aside0.mk (Kd.R_below (xR HO632.out) hb); have n1_ := Aside0.mk (Kd.R_below (xR HO636.out) hb); have n2_ := Aside0.mk (below_step (xB HB.out) hb); clear HO632; clear HO636; clear HB; have HO632 := n0_; have HO636 := n1_; have HB := n2_; clear n0_ n1_ n2_; (try clear hb); (try clear hb2); (try clear hk); (try clear hi)) | (go_at_call 202; (with_reducible refine (spec_BoxDroop.calls kj34 t627 t628 t644 t645 t646 _ A77.out).mono ?_); rintro e w84 ⟨rfl, hb⟩; have n0_ := Aside0.mk (Kd.R_below (xR HO632.out) hb); have n1_ := Aside0.mk (Kd.R_below (xR HO636.out) hb); have n2_ := Aside0.mk (below_step (xB HB.out) hb); clear HO632; clear HO636; clear HB; have HO632 := n0_; have HO636 := n1_; have HB := n2_; clear n0_ n1_ n2_; (try clear hb); (try clear hb2); (try clear hk); (try clear hi))); go_upto_region 40 with (first | (go_at_call 196; (with_reducible refine (spec_DrawBoxAnswer.calls _ _ l1 t627 t628 _ ?side1 ?side2 A71.out).mono ?_); (case side1 => exact xC (Kd.C_below HR1.out HB.out)); (case side2 => exact HC1.out); rintro e w79 ⟨rfl, hb⟩; have n0_ := Aside0.mk (below_step (xB HB.out) hb); clear HB; have HB := n0_; clear n0_; (try clear hb); (try clear hb2); (try clear hk); (try clear hi)) | (go_at_call 197; (with_reducible refine (impl_BoxAnswer.calls kj34 t627 t628 t629 t630 _ A72.out).mono ?_); rintro e w80 ⟨v631, rfl, ho0, hb⟩; have n0_ := Aside0.mk (Kd.R_lower ho0 (below_size (xB HB.out))); have n1_ := Aside0.mk (below_step (xB HB.out) hb); clear HB; have HO632 := n0_; have HB := n1_; clear n0_ n1_; (try clear hb); (try clear hb2); (try clear hk); (try clear hi); (try clear ho0)) | (go_at_call 198; (with_reducible refine (spec_BoxAnswer.calls kj34 t627 t628 t633 t634 _ A73.out).mono ?_); rintro e w81 ⟨v635, rfl, ho0, hb⟩; have n0_ := Aside0.mk (Kd.R_elder' (xR HO632.out) (Kd.R_base ho0) hb); have n1_ := Aside0.mk (Kd.R_lower (Kd.R_new' ho0 (Kd.R_lt (xR HO632.out))) (below_size (xB HB.out))); have n2_ := Aside0.mk (below_step (xB HB.out) hb); clear HO632; clear HB; have HO632 := n0_; have HO636 := n1_; have HB := n2_; clear n0_ n1_ n2_; (try clear hb); (try clear hb2); (try clear hk); (try clear hi); (try clear ho0)) | (go_at_call 199; (with_reducible refine (impl_CombGain.calls kj34 t627 t628 t637 t638 _ A74.out).mono ?_); rintro e w82 ⟨rfl, hb⟩; have n0_ := Aside0.mk (Kd.R_below (xR HO632.out) hb); have n1_ := Aside0.mk (Kd.R_below (xR HO636.out) hb); have n2_ := Aside0.mk (below_step (xB HB.out) hb); clear HO632; clear HO636; clear HB; have HO632 := n0_; have HO636 := n1_; have HB := n2_; clear n0_ n1_ n2_; (try clear hb); (try clear hb2); (try clear hk); (try clear hi)) | (go_at_call 200; (with_reducible refine (spec_CombGain.calls kj34 t627 t628 t639 t640 _ A75.out).mono ?_); rintro e w' ⟨rfl, ⟨nd, rfl⟩⟩; (try exact xD)) | (go_at_call 201; (with_reducible refine (impl_BoxDroop.calls kj34 t627 t628 t641 t642 t643 _ A76.out).mono ?_); rintro e w83 ⟨rfl, hb⟩; have n0_ := Aside0.mk (Kd.R_below (xR HO632.out) hb); have n1_ := Aside0.mk (Kd.R_below (xR HO636.out) hb); have n2_ := Aside0.mk (below_step (xB HB.out) hb); clear HO632; clear HO636; clear HB; have HO632 := n0_; have HO636 := n1_; have HB := n2_; clear n0_ n1_ n2_; (try clear hb); (try clear hb2); (try clear hk); (try clear hi)) | (go_at_call 202; (with_reducible refine (spec_BoxDroop.calls kj34 t627 t628 t644 t645 t646 _ A77.out).mono ?_); rintro e w84 ⟨rfl, hb⟩; have n0_ := Aside0.mk (Kd.R_below (xR HO632.out) hb); have n1_ := Aside0.mk (Kd.R_below (xR HO636.out) hb); have n2_ := Aside0.mk (below_step (xB HB.out) hb); clear HO632; clear HO636; clear HB; have HO632 := n0_; have HO636 := n1_; have HB := n2_; clear n0_ n1_ n2_; (try clear hb); (try clear hb2); (try clear hk); (try clear hi))))
     (try simp only [Act.put, List.setIfInBounds_toArray, List.set_cons_zero, List.set_cons_succ])
     go_cut [322] from 218 to 278 (fun v322 wc => ∃ (kq : Nat) (x322_77 : Bool), v322 = .bool x322_77 ∧ Aside0 (laws_FnSumsUndone.j7 kq l1 t627 t628 t629 t630 t637 t641 t642 x322_77 = some r) ∧ Aside0 (kq ≤ kj34) ∧ Aside0 (Kd.R (Kd.int .i64) 3 wc w.heap.size (fun _ => True) v631 t629) ∧ Aside0 (Below w.heap.size w wc))
     case first => as_aux_lemma =>
      have H := HC78.out
      clear HC78
      by_cases c85 : (t630 != t634) = true
      ·as_aux_lemma =>
        rw [if_pos c85] at H
        have c85b0 : (t630 != t634) = true := c85
        (try (have c85b1 : decide (t630 = t634) = false := by simpa using c85))
        (try (have c85b2 : (t630 == t634) = false := by simpa using c85))
        (try (have c85b3 : ¬ (t630 = t634) := by simpa using c85))
        clear c85
        (first | rw [c85b0] | (simp only [i64_w, i32_w]; rw [c85b0]) | skip)
        exact absurd H (by have hr_ := HRT.out; cases kj34 <;> simp [laws_FnSumsUndone.j7, hr_])
      rw [if_neg c85] at H
      have c85b0 : (t630 != t634) = false := by simpa using c85
      (try (have c85b1 : decide (t630 = t634) = true := by simpa using c85))
      (try (have c85b2 : (t630 == t634) = true := by simpa using c85))
      clear c85
      (first | rw [c85b0] | (simp only [i64_w, i32_w]; rw [c85b0]) | skip)
      replace H := Option.bind_eq_some_iff.mp H
      obtain ⟨t647, A860, H⟩ := H
      (try dsimp only at H)
      have A86 := Aside0.mk A860
      clear A860
      by_cases c87 : t647 = true
      rotate_left
      ·as_aux_lemma =>
        replace c87 := Bool.eq_false_iff.mpr c87
        subst c87
        have H1 := H
        rw [if_neg (show ¬ (false = true) by decide)] at H1
        clear H
        have H := H1
        clear H1
        exact absurd H (by have hr_ := HRT.out; cases kj34 <;> simp [laws_FnSumsUndone.j7, hr_])
      subst c87
      have H1 := H
      rw [if_pos rfl] at H1
      clear H
      have H := H1
      clear H1
      by_cases c88 : (t638 != t640) = true
      ·as_aux_lemma =>
        rw [if_pos c88] at H
        have c88b0 : (t638 != t640) = true := c88
        (try (have c88b1 : decide (t638 = t640) = false := by simpa using c88))
        (try (have c88b2 : (t638 == t640) = false := by simpa using c88))
        (try (have c88b3 : ¬ (t638 = t640) := by simpa using c88))
        clear c88
        exact absurd H (by have hr_ := HRT.out; cases kj34 <;> simp [laws_FnSumsUndone.j7, hr_])
      rw [if_neg c88] at H
      have c88b0 : (t638 != t640) = false := by simpa using c88
      (try (have c88b1 : decide (t638 = t640) = true := by simpa using c88))
      (try (have c88b2 : (t638 == t640) = true := by simpa using c88))
      clear c88
      by_cases c89 : t637 = t639
      rotate_left
      ·rw [if_neg c89] at H
       have c89b0 : (t637 == t639) = false := beq_eq_false_iff_ne.mpr c89
       have c89b1 : (t637 != t639) = true := bne_iff_ne.mpr c89
       exact absurd H (by have hr_ := HRT.out; cases kj34 <;> simp [laws_FnSumsUndone.j7, hr_])
      as_aux_lemma =>
       rw [if_pos c89] at H
       have c89b0 : (t637 == t639) = true := beq_iff_eq.mpr c89
       have c89b1 : (t637 != t639) = false := bne_eq_false_iff_eq.mpr c89
       clear c89
       by_cases c90 : (t643 != t646) = true
       ·rw [if_pos c90] at H
        have c90b0 : (t643 != t646) = true := c90
        (try (have c90b1 : decide (t643 = t646) = false := by simpa using c90))
        (try (have c90b2 : (t643 == t646) = false := by simpa using c90))
        (try (have c90b3 : ¬ (t643 = t646) := by simpa using c90))
        clear c90
        exact absurd H (by have hr_ := HRT.out; cases kj34 <;> simp [laws_FnSumsUndone.j7, hr_])
       rw [if_neg c90] at H
       have c90b0 : (t643 != t646) = false := by simpa using c90
       (try (have c90b1 : decide (t643 = t646) = true := by simpa using c90))
       (try (have c90b2 : (t643 == t646) = true := by simpa using c90))
       clear c90
       by_cases c91 : t641 = t644
       rotate_left
       ·rw [if_neg c91] at H
        have c91b0 : (t641 == t644) = false := beq_eq_false_iff_ne.mpr c91
        have c91b1 : (t641 != t644) = true := bne_iff_ne.mpr c91
        exact absurd H (by have hr_ := HRT.out; cases kj34 <;> simp [laws_FnSumsUndone.j7, hr_])
       rw [if_pos c91] at H
       have c91b0 : (t641 == t644) = true := beq_iff_eq.mpr c91
       have c91b1 : (t641 != t644) = false := bne_eq_false_iff_eq.mpr c91
       clear c91
       by_cases c92 : t642 = t645
       rotate_left
       ·rw [if_neg c92] at H
        have c92b0 : (t642 == t645) = false := beq_eq_false_iff_ne.mpr c92
        have c92b1 : (t642 != t645) = true := bne_iff_ne.mpr c92
        exact absurd H (by have hr_ := HRT.out; cases kj34 <;> simp [laws_FnSumsUndone.j7, hr_])
       rw [if_pos c92] at H
       have c92b0 : (t642 == t645) = true := beq_iff_eq.mpr c92
       have c92b1 : (t642 != t645) = false := bne_eq_false_iff_eq.mpr c92
       clear c92
       by_cases c93 : (t638 != t630) = true
       ·rw [if_pos c93] at H
        have c93b0 : (t638 != t630) = true := c93
        (try (have c93b1 : decide (t638 = t630) = false := by simpa using c93))
        (try (have c93b2 : (t638 == t630) = false := by simpa using c93))
        (try (have c93b3 : ¬ (t638 = t630) := by simpa using c93))
        clear c93
        exact absurd H (by have hr_ := HRT.out; cases kj34 <;> simp [laws_FnSumsUndone.j7, hr_])
       rw [if_neg c93] at H
       have c93b0 : (t638 != t630) = false := by simpa using c93
       (try (have c93b1 : decide (t638 = t630) = true := by simpa using c93))
       (try (have c93b2 : (t638 == t630) = true := by simpa using c93))
       clear c93
       have H' := Aside0.mk H
       clear H
       obtain ⟨Ao94, co94, eo94⟩ := Kd.R_slice HO632.out
       subst eo94
       obtain ⟨Ao95, co95, eo95⟩ := Kd.R_slice HO636.out
       subst eo95
       go_wp2_with (first | (go_at_call 21; (with_reducible refine (laws_iSame.calls kj34 _ _ t629 _ _ t633 true _ ?side1 ?side2 ?side3 ?side4 A86.out).mono ?_); (case side1 => exact xC ((Kd.R_reads' HO632.out).2.2)); (case side2 => exact (Kd.R_reads' HO632.out).2.1); (case side3 => exact xC ((Kd.R_reads' HO636.out).2.2)); (case side4 => exact (Kd.R_reads' HO636.out).2.1); rintro e w' ⟨rfl, ⟨nd, rfl⟩⟩; (try exact xD)))
       repeat (go_quiet (first | (go_at_call 21; (with_reducible refine (laws_iSame.calls kj34 _ _ t629 _ _ t633 true _ ?side1 ?side2 ?side3 ?side4 A86.out).mono ?_); (case side1 => exact xC ((Kd.R_reads' HO632.out).2.2)); (case side2 => exact (Kd.R_reads' HO632.out).2.1); (case side3 => exact xC ((Kd.R_reads' HO636.out).2.2)); (case side4 => exact (Kd.R_reads' HO636.out).2.1); rintro e w' ⟨rfl, ⟨nd, rfl⟩⟩; (try exact xD))); try go_wp2_with (first | (go_at_call 21; (with_reducible refine (laws_iSame.calls kj34 _ _ t629 _ _ t633 true _ ?side1 ?side2 ?side3 ?side4 A86.out).mono ?_); (case side1 => exact xC ((Kd.R_reads' HO632.out).2.2)); (case side2 => exact (Kd.R_reads' HO632.out).2.1); (case side3 => exact xC ((Kd.R_reads' HO636.out).2.2)); (case side4 => exact (Kd.R_reads' HO636.out).2.1); rintro e w' ⟨rfl, ⟨nd, rfl⟩⟩; (try exact xD))))
       go_meet
       case rel => exact ⟨_, ((t643 != t630)), (by first | rfl | (simp; done) | (simp [*]; done)), H', ⟨by have := HJ11.out; have := HJ34.out; first | omega | exact Nat.le_refl _⟩, ⟨by (with_reducible repeat (first | apply Kd.R_alloc | apply Kd.R_drewN | apply Kd.R_drew)); exact Kd.R_mono HO632.out (fun _ hk => trivial)⟩, ⟨xB HB.out⟩⟩
     case rest => as_aux_lemma =>
      clear HC78
      obtain ⟨kq, x322_77, rfl, HA, HJ77, HO_32, HB⟩ := hcut
      cases kq with
      | zero => exact absurd HA.out (by simp [laws_FnSumsUndone.j7])
      | succ kj77 =>
       have H := HA.out
       clear HA
       simp only [laws_FnSumsUndone.j7] at H
       by_cases c96 : x322_77 = true
       ·as_aux_lemma =>
         subst c96
         have H1 := H
         rw [if_pos rfl] at H1
         clear H
         have H := H1
         clear H1
         exact absurd ((Option.some.inj H).trans HRT.out) (by decide)
       replace c96 := Bool.eq_false_iff.mpr c96
       subst c96
       have H1 := H
       rw [if_neg (show ¬ (false = true) by decide)] at H1
       clear H
       have H := H1
       clear H1
       have HC97 := Aside0.mk H
       clear H
       go_upto_if 323 with (fail)
       repeat (go_quiet (fail); go_upto_if 323 with (fail))
       go_cut [] from 279 to 323 (fun wc => ∃ (kq : Nat), Aside0 (laws_FnSumsUndone.j10 kq l1 = some r) ∧ Aside0 (kq ≤ kj77) ∧ Aside0 (Below w.heap.size w wc))
       case first => as_aux_lemma =>
        have H := HC97.out
        clear HC97
        by_cases c98 : t630 = true
        rotate_left
        ·as_aux_lemma =>
          replace c98 := Bool.eq_false_iff.mpr c98
          subst c98
          have H1 := H
          rw [if_neg (show ¬ (false = true) by decide)] at H1
          clear H
          have H := H1
          clear H1
          have H' := Aside0.mk H
          clear H
          go_wp2
          repeat (go_quiet (fail); try go_wp2)
          go_meet
          case rel => exact ⟨_, H', ⟨by have := HJ11.out; have := HJ34.out; have := HJ77.out; first | omega | exact Nat.le_refl _⟩, ⟨xB HB.out⟩⟩
        subst c98
        have H1 := H
        rw [if_pos rfl] at H1
        clear H
        have H := H1
        clear H1
        have HC99 := Aside0.mk H
        clear H
        go_upto_region 43 with (fail)
        repeat (go_quiet (fail); go_upto_region 43 with (fail))
        go_cut [365] from 324 to 324 (fun v365 wc => ∃ (kq : Nat) (x365_98 : Bool), v365 = .bool x365_98 ∧ Aside0 (laws_FnSumsUndone.j8 kq l1 t629 x365_98 = some r) ∧ Aside0 (kq ≤ kj77) ∧ Aside0 (Kd.R (Kd.int .i64) 3 wc w.heap.size (fun _ => True) v631 t629) ∧ Aside0 (Below w.heap.size w wc))
        case first => as_aux_lemma =>
         have H := HC99.out
         clear HC99
         replace H := Option.bind_eq_some_iff.mp H
         obtain ⟨t648, A1000, H⟩ := H
         (try dsimp only at H)
         have A100 := Aside0.mk A1000
         clear A1000
         by_cases c101 : t648 = t637
         rotate_left
         ·rw [if_neg c101] at H
          have c101b0 : (t648 == t637) = false := beq_eq_false_iff_ne.mpr c101
          have c101b1 : (t648 != t637) = true := bne_iff_ne.mpr c101
          (first | rw [c101b0] | (simp only [i64_w, i32_w]; rw [c101b0]) | skip)
          exact absurd H (by have hr_ := HRT.out; cases kj77 <;> simp [laws_FnSumsUndone.j8, hr_])
         rw [if_pos c101] at H
         have c101b0 : (t648 == t637) = true := beq_iff_eq.mpr c101
         have c101b1 : (t648 != t637) = false := bne_eq_false_iff_eq.mpr c101
         clear c101
         (first | rw [c101b0] | (simp only [i64_w, i32_w]; rw [c101b0]) | skip)
         by_cases c102 : (t629.length : Int) = (wrap64 ((wrap64 (t627 * (wrap64 (t628 - 1)))) + 1))
         rotate_left
         ·rw [if_neg c102] at H
          have c102b0 : ((t629.length : Int) == (wrap64 ((wrap64 (t627 * (wrap64 (t628 - 1)))) + 1))) = false := beq_eq_false_iff_ne.mpr c102
          have c102b1 : ((t629.length : Int) != (wrap64 ((wrap64 (t627 * (wrap64 (t628 - 1)))) + 1))) = true := bne_iff_ne.mpr c102
          exact absurd H (by have hr_ := HRT.out; cases kj77 <;> simp [laws_FnSumsUndone.j8, hr_])
         rw [if_pos c102] at H
         have c102b0 : ((t629.length : Int) == (wrap64 ((wrap64 (t627 * (wrap64 (t628 - 1)))) + 1))) = true := beq_iff_eq.mpr c102
         have c102b1 : ((t629.length : Int) != (wrap64 ((wrap64 (t627 * (wrap64 (t628 - 1)))) + 1))) = false := bne_eq_false_iff_eq.mpr c102
         clear c102
         by_cases c103 : 0 < (t629.length : Int)
         rotate_left
         ·rw [if_neg c103] at H
          exact absurd H (by simp)
         as_aux_lemma =>
          rw [if_pos c103] at H
          have c103b0 : decide (0 < (t629.length : Int)) = true := decide_eq_true c103
          have c103b1 : decide (0 < t629.length) = true := decide_eq_true (by omega)
          clear c103
          by_cases c104 : (rd t629 0) = 1
          rotate_left
          ·rw [if_neg c104] at H
           have c104b0 : ((rd t629 0) == 1) = false := beq_eq_false_iff_ne.mpr c104
           have c104b1 : ((rd t629 0) != 1) = true := bne_iff_ne.mpr c104
           exact absurd H (by have hr_ := HRT.out; cases kj77 <;> simp [laws_FnSumsUndone.j8, hr_])
          rw [if_pos c104] at H
          have c104b0 : ((rd t629 0) == 1) = true := beq_iff_eq.mpr c104
          have c104b1 : ((rd t629 0) != 1) = false := bne_eq_false_iff_eq.mpr c104
          clear c104
          by_cases c105 : ((t641 == 0) != ((Int.tmod t628 2) == 0)) = true
          ·rw [if_pos c105] at H
           have c105b0 : ((t641 == 0) != ((Int.tmod t628 2) == 0)) = true := c105
           (try (have c105b1 : decide ((t641 == 0) = ((Int.tmod t628 2) == 0)) = false := by simpa using c105))
           (try (have c105b2 : ((t641 == 0) == ((Int.tmod t628 2) == 0)) = false := by simpa using c105))
           (try (have c105b3 : ¬ ((t641 == 0) = ((Int.tmod t628 2) == 0)) := by simpa using c105))
           clear c105
           exact absurd H (by have hr_ := HRT.out; cases kj77 <;> simp [laws_FnSumsUndone.j8, hr_])
          rw [if_neg c105] at H
          have c105b0 : ((t641 == 0) != ((Int.tmod t628 2) == 0)) = false := by simpa using c105
          (try (have c105b1 : decide ((t641 == 0) = ((Int.tmod t628 2) == 0)) = true := by simpa using c105))
          (try (have c105b2 : ((t641 == 0) == ((Int.tmod t628 2) == 0)) = true := by simpa using c105))
          clear c105
          by_cases c106 : (Int.tmod t628 2) = 1
          rotate_left
          ·as_aux_lemma =>
             rw [if_neg c106] at H
             have c106b0 : ((Int.tmod t628 2) == 1) = false := beq_eq_false_iff_ne.mpr c106
             have c106b1 : ((Int.tmod t628 2) != 1) = true := bne_iff_ne.mpr c106
             have H' := Aside0.mk H
             clear H
             obtain ⟨Ao109, co109, eo109⟩ := Kd.R_slice HO_32.out
             subst eo109
             go_wp2_with (first | (go_at_call 74; (with_reducible refine (laws_iSum.calls kj77 _ _ t629 t648 _ ?side1 ?side2 A100.out).mono ?_); (case side1 => exact xC ((Kd.R_reads' HO_32.out).2.2)); (case side2 => exact (Kd.R_reads' HO_32.out).2.1); rintro e w' ⟨rfl, ⟨nd, rfl⟩⟩; (try exact xD); have p649 : 0 ≤ (0 : Int) := (by omega); have q649 : 0 < (t629.length : Int) := of_decide_eq_true (by first | (with_reducible assumption) | assumption); obtain ⟨ad649, e649, hx649_0⟩ := Kd.at_int (Kd.R_reads' HO_32.out).2.2 0 p649 q649; cases e649; have qi649 : (0 < t629.length) = True := eq_true (by omega); (try rw [show ((0 : Int)).toNat = 0 from rfl] at hx649_0); (try rw [Addr.add_zero'] at hx649_0); replace p649 := eq_true p649; replace q649 := eq_true q649))
             repeat (go_quiet (first | (go_at_call 74; (with_reducible refine (laws_iSum.calls kj77 _ _ t629 t648 _ ?side1 ?side2 A100.out).mono ?_); (case side1 => exact xC ((Kd.R_reads' HO_32.out).2.2)); (case side2 => exact (Kd.R_reads' HO_32.out).2.1); rintro e w' ⟨rfl, ⟨nd, rfl⟩⟩; (try exact xD); have p649 : 0 ≤ (0 : Int) := (by omega); have q649 : 0 < (t629.length : Int) := of_decide_eq_true (by first | (with_reducible assumption) | assumption); obtain ⟨ad649, e649, hx649_0⟩ := Kd.at_int (Kd.R_reads' HO_32.out).2.2 0 p649 q649; cases e649; have qi649 : (0 < t629.length) = True := eq_true (by omega); (try rw [show ((0 : Int)).toNat = 0 from rfl] at hx649_0); (try rw [Addr.add_zero'] at hx649_0); replace p649 := eq_true p649; replace q649 := eq_true q649)); try go_wp2_with (first | (go_at_call 74; (with_reducible refine (laws_iSum.calls kj77 _ _ t629 t648 _ ?side1 ?side2 A100.out).mono ?_); (case side1 => exact xC ((Kd.R_reads' HO_32.out).2.2)); (case side2 => exact (Kd.R_reads' HO_32.out).2.1); rintro e w' ⟨rfl, ⟨nd, rfl⟩⟩; (try exact xD); have p649 : 0 ≤ (0 : Int) := (by omega); have q649 : 0 < (t629.length : Int) := of_decide_eq_true (by first | (with_reducible assumption) | assumption); obtain ⟨ad649, e649, hx649_0⟩ := Kd.at_int (Kd.R_reads' HO_32.out).2.2 0 p649 q649; cases e649; have qi649 : (0 < t629.length) = True := eq_true (by omega); (try rw [show ((0 : Int)).toNat = 0 from rfl] at hx649_0); (try rw [Addr.add_zero'] at hx649_0); replace p649 := eq_true p649; replace q649 := eq_true q649)))
             go_meet
             case rel => exact ⟨_, (false), (by first | rfl | (simp; done) | (simp [*]; done)), H', ⟨by have := HJ11.out; have := HJ34.out; have := HJ77.out; first | omega | exact Nat.le_refl _⟩, ⟨xR HO_32.out⟩, ⟨xB HB.out⟩⟩
          rw [if_pos c106] at H
          have c106b0 : ((Int.tmod t628 2) == 1) = true := beq_iff_eq.mpr c106
          have c106b1 : ((Int.tmod t628 2) != 1) = false := bne_eq_false_iff_eq.mpr c106
          clear c106
          by_cases c107 : t641 = 1
          rotate_left
          ·rw [if_neg c107] at H
           have c107b0 : (t641 == 1) = false := beq_eq_false_iff_ne.mpr c107
           have c107b1 : (t641 != 1) = true := bne_iff_ne.mpr c107
           exact absurd H (by have hr_ := HRT.out; cases kj77 <;> simp [laws_FnSumsUndone.j8, hr_])
          rw [if_pos c107] at H
          have c107b0 : (t641 == 1) = true := beq_iff_eq.mpr c107
          have c107b1 : (t641 != 1) = false := bne_eq_false_iff_eq.mpr c107
          clear c107
          have H' := Aside0.mk H
          clear H
          obtain ⟨Ao108, co108, eo108⟩ := Kd.R_slice HO_32.out
          subst eo108
          go_wp2_with (first | (go_at_call 74; (with_reducible refine (laws_iSum.calls kj77 _ _ t629 t648 _ ?side1 ?side2 A100.out).mono ?_); (case side1 => exact xC ((Kd.R_reads' HO_32.out).2.2)); (case side2 => exact (Kd.R_reads' HO_32.out).2.1); rintro e w' ⟨rfl, ⟨nd, rfl⟩⟩; (try exact xD); have p649 : 0 ≤ (0 : Int) := (by omega); have q649 : 0 < (t629.length : Int) := of_decide_eq_true (by first | (with_reducible assumption) | assumption); obtain ⟨ad649, e649, hx649_0⟩ := Kd.at_int (Kd.R_reads' HO_32.out).2.2 0 p649 q649; cases e649; have qi649 : (0 < t629.length) = True := eq_true (by omega); (try rw [show ((0 : Int)).toNat = 0 from rfl] at hx649_0); (try rw [Addr.add_zero'] at hx649_0); replace p649 := eq_true p649; replace q649 := eq_true q649))
          repeat (go_quiet (first | (go_at_call 74; (with_reducible refine (laws_iSum.calls kj77 _ _ t629 t648 _ ?side1 ?side2 A100.out).mono ?_); (case side1 => exact xC ((Kd.R_reads' HO_32.out).2.2)); (case side2 => exact (Kd.R_reads' HO_32.out).2.1); rintro e w' ⟨rfl, ⟨nd, rfl⟩⟩; (try exact xD); have p649 : 0 ≤ (0 : Int) := (by omega); have q649 : 0 < (t629.length : Int) := of_decide_eq_true (by first | (with_reducible assumption) | assumption); obtain ⟨ad649, e649, hx649_0⟩ := Kd.at_int (Kd.R_reads' HO_32.out).2.2 0 p649 q649; cases e649; have qi649 : (0 < t629.length) = True := eq_true (by omega); (try rw [show ((0 : Int)).toNat = 0 from rfl] at hx649_0); (try rw [Addr.add_zero'] at hx649_0); replace p649 := eq_true p649; replace q649 := eq_true q649)); try go_wp2_with (first | (go_at_call 74; (with_reducible refine (laws_iSum.calls kj77 _ _ t629 t648 _ ?side1 ?side2 A100.out).mono ?_); (case side1 => exact xC ((Kd.R_reads' HO_32.out).2.2)); (case side2 => exact (Kd.R_reads' HO_32.out).2.1); rintro e w' ⟨rfl, ⟨nd, rfl⟩⟩; (try exact xD); have p649 : 0 ≤ (0 : Int) := (by omega); have q649 : 0 < (t629.length : Int) := of_decide_eq_true (by first | (with_reducible assumption) | assumption); obtain ⟨ad649, e649, hx649_0⟩ := Kd.at_int (Kd.R_reads' HO_32.out).2.2 0 p649 q649; cases e649; have qi649 : (0 < t629.length) = True := eq_true (by omega); (try rw [show ((0 : Int)).toNat = 0 from rfl] at hx649_0); (try rw [Addr.add_zero'] at hx649_0); replace p649 := eq_true p649; replace q649 := eq_true q649)))
          go_meet
          case rel => exact ⟨_, ((t642 != t637)), (by first | rfl | (simp; done) | (simp [*]; done)), H', ⟨by have := HJ11.out; have := HJ34.out; have := HJ77.out; first | omega | exact Nat.le_refl _⟩, ⟨xR HO_32.out⟩, ⟨xB HB.out⟩⟩
        case rest => as_aux_lemma =>
         clear HC99
         try clear c96
         try clear c98
         obtain ⟨kq, x365_98, rfl, HA, HJ98, HO_32, HB⟩ := hcut
         cases kq with
         | zero => exact absurd HA.out (by simp [laws_FnSumsUndone.j8])
         | succ kj98 =>
          have H := HA.out
          clear HA
          simp only [laws_FnSumsUndone.j8] at H
          by_cases c110 : x365_98 = true
          ·as_aux_lemma =>
            subst c110
            have H1 := H
            rw [if_pos rfl] at H1
            clear H
            have H := H1
            clear H1
            exact absurd ((Option.some.inj H).trans HRT.out) (by decide)
          replace c110 := Bool.eq_false_iff.mpr c110
          subst c110
          have H1 := H
          rw [if_neg (show ¬ (false = true) by decide)] at H1
          clear H
          have H := H1
          clear H1
          have H' := Aside0.mk H
          clear H
          obtain ⟨Ao111, co111, eo111⟩ := Kd.R_slice HO_32.out
          subst eo111
          go_wp2
          repeat (go_quiet (fail); try go_wp2)
          go_loopg [368] kj98 (fun kq v368 w' => ∃ (x368_5 : Int), v368 = .int .i64 x368_5 ∧ Aside0 (laws_FnSumsUndone.l2 kq l1 t629 (t629.length : Int) x368_5 = some r) ∧ Aside0 (kq ≤ kj98) ∧ Aside0 (Kd.R (Kd.int .i64) 3 w' w.heap.size (fun _ => True) (.slice Ao111 t629.length co111) t629) ∧ Aside0 (Below w.heap.size w w'))
          case atStart => exact ⟨(0), (by first | rfl | (simp; done) | (simp [*]; done)), H', ⟨Nat.le_refl _⟩, ⟨xR HO_32.out⟩, ⟨xB HB.out⟩⟩
          case round =>
           clear H'
           try clear c110
           obtain ⟨x368_5, rfl, HA, HK5, HO_32, HB⟩ := hrel
           cases gk with
           | zero => exact absurd HA.out (by simp [laws_FnSumsUndone.l2])
           | succ k5 =>
            have H := HA.out
            clear HA
            simp only [laws_FnSumsUndone.l2] at H
            by_cases c112 : x368_5 < (t629.length : Int)
            rotate_left
            ·as_aux_lemma =>
              rw [if_neg c112] at H
              have c112b0 : decide (x368_5 < (t629.length : Int)) = false := decide_eq_false c112
              clear c112
              have H' := Aside0.mk H
              clear H
              go_wp2
              repeat (go_quiet (fail); try go_wp2)
              go_meet
              case rel => exact ⟨_, H', ⟨by have := HJ11.out; have := HJ34.out; have := HJ77.out; have := HJ98.out; have := HK5.out; first | omega | exact Nat.le_refl _⟩, ⟨xB HB.out⟩⟩
            as_aux_lemma =>
             rw [if_pos c112] at H
             have c112b0 : decide (x368_5 < (t629.length : Int)) = true := decide_eq_true c112
             clear c112
             by_cases c113 : 0 ≤ x368_5
             rotate_left
             ·rw [if_neg c113] at H
              exact absurd H (by simp)
             rw [if_pos c113] at H
             have c113b0 : decide (0 ≤ x368_5) = true := decide_eq_true c113
             clear c113
             by_cases c114 : x368_5 < (t629.length : Int)
             rotate_left
             ·rw [if_neg c114] at H
              exact absurd H (by simp)
             rw [if_pos c114] at H
             have c114b0 : decide (x368_5 < (t629.length : Int)) = true := decide_eq_true c114
             clear c114
             obtain ⟨ji115, hji115⟩ : ∃ j_ : Int, (wrap64 ((wrap64 ((t629.length : Int) - 1)) - x368_5)) = j_ := ⟨_, rfl⟩
             replace H : (if 0 ≤ (ji115) then (if (ji115) < (t629.length : Int) then (if (rd t629 x368_5) = (rd t629 (ji115)) then (laws_FnSumsUndone.l2 k5 l1 t629 (t629.length : Int) (wrap64 (x368_5 + 1))) else (some false)) else (none)) else (none)) = some r := by first | (rw [hji115] at H; exact H) | (simp only [hji115] at H ⊢; exact H)
             have hji115w : (IntKind.i64.wrap ((wrap64 ((t629.length : Int) - 1)) - x368_5)) = ji115 := (i64_w _).trans hji115
             by_cases c116 : 0 ≤ (ji115)
             rotate_left
             ·rw [if_neg c116] at H
              exact absurd H (by simp)
             rw [if_pos c116] at H
             have c116b0 : decide (0 ≤ (ji115)) = true := decide_eq_true c116
             clear c116
             by_cases c117 : (ji115) < (t629.length : Int)
             rotate_left
             ·rw [if_neg c117] at H
              exact absurd H (by simp)
             rw [if_pos c117] at H
             have c117b0 : decide ((ji115) < (t629.length : Int)) = true := decide_eq_true c117
             clear c117
             by_cases c118 : (rd t629 x368_5) = (rd t629 (ji115))
             rotate_left
             ·rw [if_neg c118] at H
              have c118b0 : ((rd t629 x368_5) == (rd t629 (ji115))) = false := beq_eq_false_iff_ne.mpr c118
              have c118b1 : ((rd t629 x368_5) != (rd t629 (ji115))) = true := bne_iff_ne.mpr c118
              exact absurd ((Option.some.inj H).trans HRT.out) (by decide)
             rw [if_pos c118] at H
             have c118b0 : ((rd t629 x368_5) == (rd t629 (ji115))) = true := beq_iff_eq.mpr c118
             have c118b1 : ((rd t629 x368_5) != (rd t629 (ji115))) = false := bne_eq_false_iff_eq.mpr c118
             clear c118
             have H' := Aside0.mk H
             clear H
             have p650 : 0 ≤ (x368_5 : Int) := of_decide_eq_true (by first | (with_reducible assumption) | assumption)
             have q650 : x368_5 < (t629.length : Int) := of_decide_eq_true (by first | (with_reducible assumption) | assumption)
             obtain ⟨ad650, e650, hx650_0⟩ := Kd.at_int (Kd.R_reads' HO_32.out).2.2 x368_5 p650 q650
             cases e650
             replace p650 := eq_true p650
             replace q650 := eq_true q650
             have p651 : 0 ≤ ((ji115) : Int) := of_decide_eq_true (by first | (with_reducible assumption) | assumption | (rw [← hji115]; first | (with_reducible assumption) | assumption))
             have q651 : (ji115) < (t629.length : Int) := of_decide_eq_true (by first | (with_reducible assumption) | assumption | (rw [← hji115]; first | (with_reducible assumption) | assumption))
             obtain ⟨ad651, e651, hx651_0⟩ := Kd.at_int (Kd.R_reads' HO_32.out).2.2 (ji115) p651 q651
             obtain rfl : ad650 = ad651 := (by injection e651)
             replace p651 := eq_true p651
             replace q651 := eq_true q651
             go_wp2
             repeat (go_quiet (fail); try go_wp2)
             go_roundg k5
             case measure => have := HJ11.out; have := HJ34.out; have := HJ77.out; have := HJ98.out; have := HK5.out; omega
             case rel => exact ⟨(wrap64 (x368_5 + 1)), (by first | rfl | (simp; done) | (simp [*]; done)), H', ⟨by have := HJ11.out; have := HJ34.out; have := HJ77.out; have := HJ98.out; have := HK5.out; omega⟩, ⟨xR HO_32.out⟩, ⟨xB HB.out⟩⟩
       case rest => as_aux_lemma =>
        clear HC97
        try clear c96
        obtain ⟨kq, HA, HJ96, HB⟩ := hcut
        cases kq with
        | zero => exact absurd HA.out (by simp [laws_FnSumsUndone.j10])
        | succ kj96 =>
         have H := HA.out
         clear HA
         simp only [laws_FnSumsUndone.j10] at H
         replace H := Option.bind_eq_some_iff.mp H
         obtain ⟨⟨t652, t653, t654⟩, A1190, H⟩ := H
         (try dsimp only at H)
         have A119 := Aside0.mk A1190
         clear A1190
         replace H := Option.bind_eq_some_iff.mp H
         obtain ⟨⟨t657, t658⟩, A1200, H⟩ := H
         (try dsimp only at H)
         have A120 := Aside0.mk A1200
         clear A1200
         replace H := Option.bind_eq_some_iff.mp H
         obtain ⟨⟨t661, t662⟩, A1210, H⟩ := H
         (try dsimp only at H)
         have A121 := Aside0.mk A1210
         clear A1210
         replace H := Option.bind_eq_some_iff.mp H
         obtain ⟨⟨t665, t666⟩, A1220, H⟩ := H
         (try dsimp only at H)
         have A122 := Aside0.mk A1220
         clear A1220
         replace H := Option.bind_eq_some_iff.mp H
         obtain ⟨⟨t669, t670⟩, A1230, H⟩ := H
         (try dsimp only at H)
         have A123 := Aside0.mk A1230
         clear A1230
         replace H := Option.bind_eq_some_iff.mp H
         obtain ⟨⟨t673, t674⟩, A1240, H⟩ := H
         (try dsimp only at H)
         have A124 := Aside0.mk A1240
         clear A1240
         have HC125 := Aside0.mk H
         clear H
         go_upto_region 57 with (first | (go_at_call 203; (with_reducible refine (spec_DrawDropSamples.calls kj96 _ _ l1 t652 t653 t654 _ ?side1 ?side2 A119.out).mono ?_); (case side1 => exact xC (Kd.C_below HR1.out HB.out)); (case side2 => exact HC1.out); rintro e w126 ⟨v655, rfl, ho0, hb⟩; have n0_ := Aside0.mk (Kd.R_lower ho0 (below_size (xB HB.out))); have n1_ := Aside0.mk (below_step (xB HB.out) hb); clear HB; have HO656 := n0_; have HB := n1_; clear n0_ n1_; (try clear hb); (try clear hb2); (try clear hk); (try clear hi); (try clear ho0); obtain ⟨Ao127, co127, eo127⟩ := Kd.R_slice HO656.out; subst eo127) | (go_at_call 166; (with_reducible refine (impl_DropSamples.calls kj96 _ _ t652 t653 t654 t657 t658 _ ?side1 ?side2 A120.out).mono ?_); (case side1 => exact xC ((Kd.R_reads' HO656.out).2.2)); (case side2 => exact (Kd.R_reads' HO656.out).2.1); rintro e w128 ⟨v659, rfl, ho0, hb⟩; have n0_ := Aside0.mk (Kd.R_elder' (xR HO656.out) (Kd.R_base ho0) hb); have n1_ := Aside0.mk (Kd.R_lower (Kd.R_new' ho0 (Kd.R_lt (xR HO656.out))) (below_size (xB HB.out))); have n2_ := Aside0.mk (below_step (xB HB.out) hb); clear HO656; clear HB; have HO656 := n0_; have HO660 := n1_; have HB := n2_; clear n0_ n1_ n2_; (try clear hb); (try clear hb2); (try clear hk); (try clear hi); (try clear ho0)) | (go_at_call 204; (with_reducible refine (spec_DropSamples.calls kj96 _ _ t652 t653 t654 t661 t662 _ ?side1 ?side2 A121.out).mono ?_); (case side1 => exact xC ((Kd.R_reads' HO656.out).2.2)); (case side2 => exact (Kd.R_reads' HO656.out).2.1); rintro e w129 ⟨v663, rfl, ho0, hb⟩; have n0_ := Aside0.mk (Kd.R_elder' (xR HO656.out) (Kd.R_base ho0) hb); have n1_ := Aside0.mk (Kd.R_elder' (xR HO660.out) (Kd.R_base ho0) hb); have n2_ := Aside0.mk (Kd.R_lower (Kd.R_new' (Kd.R_new' ho0 (Kd.R_lt (xR HO656.out))) (Kd.R_lt (xR HO660.out))) (below_size (xB HB.out))); have n3_ := Aside0.mk (below_step (xB HB.out) hb); clear HO656; clear HO660; clear HB; have HO656 := n0_; have HO660 := n1_; have HO664 := n2_; have HB := n3_; clear n0_ n1_ n2_ n3_; (try clear hb); (try clear hb2); (try clear hk); (try clear hi); (try clear ho0)) | (go_at_call 205; (with_reducible refine (spec_DrawStuffZeros.calls kj96 _ _ l1 t665 t666 _ ?side1 ?side2 A122.out).mono ?_); (case side1 => exact xC (Kd.C_below HR1.out HB.out)); (case side2 => exact HC1.out); rintro e w130 ⟨v667, rfl, ho0, hb⟩; have n0_ := Aside0.mk (Kd.R_elder' (xR HO656.out) (Kd.R_base ho0) hb); have n1_ := Aside0.mk (Kd.R_elder' (xR HO660.out) (Kd.R_base ho0) hb); have n2_ := Aside0.mk (Kd.R_elder' (xR HO664.out) (Kd.R_base ho0) hb); have n3_ := Aside0.mk (Kd.R_lower (Kd.R_new' (Kd.R_new' (Kd.R_new' ho0 (Kd.R_lt (xR HO656.out))) (Kd.R_lt (xR HO660.out))) (Kd.R_lt (xR HO664.out))) (below_size (xB HB.out))); have n4_ := Aside0.mk (below_step (xB HB.out) hb); clear HO656; clear HO660; clear HO664; clear HB; have HO656 := n0_; have HO660 := n1_; have HO664 := n2_; have HO668 := n3_; have HB := n4_; clear n0_ n1_ n2_ n3_ n4_; (try clear hb); (try clear hb2); (try clear hk); (try clear hi); (try clear ho0); obtain ⟨Ao131, co131, eo131⟩ := Kd.R_slice HO668.out; subst eo131) | (go_at_call 206; (with_reducible refine (impl_StuffZeros.calls kj96 _ _ t665 t666 t669 t670 _ ?side1 ?side2 A123.out).mono ?_); (case side1 => exact xC ((Kd.R_reads' HO668.out).2.2)); (case side2 => exact (Kd.R_reads' HO668.out).2.1); rintro e w132 ⟨v671, rfl, ho0, hb⟩; have n0_ := Aside0.mk (Kd.R_elder' (xR HO656.out) (Kd.R_base ho0) hb); have n1_ := Aside0.mk (Kd.R_elder' (xR HO660.out) (Kd.R_base ho0) hb); have n2_ := Aside0.mk (Kd.R_elder' (xR HO664.out) (Kd.R_base ho0) hb); have n3_ := Aside0.mk (Kd.R_elder' (xR HO668.out) (Kd.R_base ho0) hb); have n4_ := Aside0.mk (Kd.R_lower (Kd.R_new' (Kd.R_new' (Kd.R_new' (Kd.R_new' ho0 (Kd.R_lt (xR HO656.out))) (Kd.R_lt (xR HO660.out))) (Kd.R_lt (xR HO664.out))) (Kd.R_lt (xR HO668.out))) (below_size (xB HB.out))); have n5_ := Aside0.mk (below_step (xB HB.out) hb); clear HO656; clear HO660; clear HO664; clear HO668; clear HB; have HO656 := n0_; have HO660 := n1_; have HO664 := n2_; have HO668 := n3_; have HO672 := n4_; have HB := n5_; clear n0_ n1_ n2_ n3_ n4_ n5_; (try clear hb); (try clear hb2); (try clear hk); (try clear hi); (try clear ho0)) | (go_at_call 207; (with_reducible refine (spec_StuffZeros.calls kj96 _ _ t665 t666 t673 t674 _ ?side1 ?side2 A124.out).mono ?_); (case side1 => exact xC ((Kd.R_reads' HO668.out).2.2)); (case side2 => exact (Kd.R_reads' HO668.out).2.1); rintro e w133 ⟨v675, rfl, ho0, hb⟩; have n0_ := Aside0.mk (Kd.R_elder' (xR HO656.out) (Kd.R_base ho0) hb); have n1_ := Aside0.mk (Kd.R_elder' (xR HO660.out) (Kd.R_base ho0) hb); have n2_ := Aside0.mk (Kd.R_elder' (xR HO664.out) (Kd.R_base ho0) hb); have n3_ := Aside0.mk (Kd.R_elder' (xR HO668.out) (Kd.R_base ho0) hb); have n4_ := Aside0.mk (Kd.R_elder' (xR HO672.out) (Kd.R_base ho0) hb); have n5_ := Aside0.mk (Kd.R_lower (Kd.R_new' (Kd.R_new' (Kd.R_new' (Kd.R_new' (Kd.R_new' ho0 (Kd.R_lt (xR HO656.out))) (Kd.R_lt (xR HO660.out))) (Kd.R_lt (xR HO664.out))) (Kd.R_lt (xR HO668.out))) (Kd.R_lt (xR HO672.out))) (below_size (xB HB.out))); have n6_ := Aside0.mk (below_step (xB HB.out) hb); clear HO656; clear HO660; clear HO664; clear HO668; clear HO672; clear HB; have HO656 := n0_; have HO660 := n1_; have HO664 := n2_; have HO668 := n3_; have HO672 := n4_; have HO676 := n5_; have HB := n6_; clear n0_ n1_ n2_ n3_ n4_ n5_ n6_; (try clear hb); (try clear hb2); (try clear hk); (try clear hi); (try clear ho0)))
         repeat (go_quiet (first | (go_at_call 203; (with_reducible refine (spec_DrawDropSamples.calls kj96 _ _ l1 t652 t653 t654 _ ?side1 ?side2 A119.out).mono ?_); (case side1 => exact xC (Kd.C_below HR1.out HB.out)); (case side2 => exact HC1.out); rintro e w126 ⟨v655, rfl, ho0, hb⟩; have n0_ := Aside0.mk (Kd.R_lower ho0 (below_size (xB HB.out))); have n1_ := Aside0.mk (below_step (xB HB.out) hb); clear HB; have HO656 := n0_; have HB := n1_; clear n0_ n1_; (try clear hb); (try clear hb2); (try clear hk); (try clear hi); (try clear ho0); obtain ⟨Ao127, co127, eo127⟩ := Kd.R_slice HO656.out; subst eo127) | (go_at_call 166; (with_reducible refine (impl_DropSamples.calls kj96 _ _ t652 t653 t654 t657 t658 _ ?side1 ?side2 A120.out).mono ?_); (case side1 => exact xC ((Kd.R_reads' HO656.out).2.2)); (case side2 => exact (Kd.R_reads' HO656.out).2.1); rintro e w128 ⟨v659, rfl, ho0, hb⟩; have n0_ := Aside0.mk (Kd.R_elder' (xR HO656.out) (Kd.R_base ho0) hb); have n1_ := Aside0.mk (Kd.R_lower (Kd.R_new' ho0 (Kd.R_lt (xR HO656.out))) (below_size (xB HB.out))); have n2_ := Aside0.mk (below_step (xB HB.out) hb); clear HO656; clear HB; have HO656 := n0_; have HO660 := n1_; have HB := n2_; clear n0_ n1_ n2_; (try clear hb); (try clear hb2); (try clear hk); (try clear hi); (try clear ho0)) | (go_at_call 204; (with_reducible refine (spec_DropSamples.calls kj96 _ _ t652 t653 t654 t661 t662 _ ?side1 ?side2 A121.out).mono ?_); (case side1 => exact xC ((Kd.R_reads' HO656.out).2.2)); (case side2 => exact (Kd.R_reads' HO656.out).2.1); rintro e w129 ⟨v663, rfl, ho0, hb⟩; have n0_ := Aside0.mk (Kd.R_elder' (xR HO656.out) (Kd.R_base ho0) hb); have n1_ := Aside0.mk (Kd.R_elder' (xR HO660.out) (Kd.R_base ho0) hb); have n2_ := Aside0.mk (Kd.R_lower (Kd.R_new' (Kd.R_new' ho0 (Kd.R_lt (xR HO656.out))) (Kd.R_lt (xR HO660.out))) (below_size (xB HB.out))); have n3_ := Aside0.mk (below_step (xB HB.out) hb); clear HO656; clear HO660; clear HB; have HO656 := n0_; have HO660 := n1_; have HO664 := n2_; have HB := n3_; clear n0_ n1_ n2_ n3_; (try clear hb); (try clear hb2); (try clear hk); (try clear hi); (try clear ho0)) | (go_at_call 205; (with_reducible refine (spec_DrawStuffZeros.calls kj96 _ _ l1 t665 t666 _ ?side1 ?side2 A122.out).mono ?_); (case side1 => exact xC (Kd.C_below HR1.out HB.out)); (case side2 => exact HC1.out); rintro e w130 ⟨v667, rfl, ho0, hb⟩; have n0_ := Aside0.mk (Kd.R_elder' (xR HO656.out) (Kd.R_base ho0) hb); have n1_ := Aside0.mk (Kd.R_elder' (xR HO660.out) (Kd.R_base ho0) hb); have n2_ := Aside0.mk (Kd.R_elder' (xR HO664.out) (Kd.R_base ho0) hb); have n3_ := Aside0.mk (Kd.R_lower (Kd.R_new' (Kd.R_new' (Kd.R_new' ho0 (Kd.R_lt (xR HO656.out))) (Kd.R_lt (xR HO660.out))) (Kd.R_lt (xR HO664.out))) (below_size (xB HB.out))); have n4_ := Aside0.mk (below_step (xB HB.out) hb); clear HO656; clear HO660; clear HO664; clear HB; have HO656 := n0_; have HO660 := n1_; have HO664 := n2_; have HO668 := n3_; have HB := n4_; clear n0_ n1_ n2_ n3_ n4_; (try clear hb); (try clear hb2); (try clear hk); (try clear hi); (try clear ho0); obtain ⟨Ao131, co131, eo131⟩ := Kd.R_slice HO668.out; subst eo131) | (go_at_call 206; (with_reducible refine (impl_StuffZeros.calls kj96 _ _ t665 t666 t669 t670 _ ?side1 ?side2 A123.out).mono ?_); (case side1 => exact xC ((Kd.R_reads' HO668.out).2.2)); (case side2 => exact (Kd.R_reads' HO668.out).2.1); rintro e w132 ⟨v671, rfl, ho0, hb⟩; have n0_ := Aside0.mk (Kd.R_elder' (xR HO656.out) (Kd.R_base ho0) hb); have n1_ := Aside0.mk (Kd.R_elder' (xR HO660.out) (Kd.R_base ho0) hb); have n2_ := Aside0.mk (Kd.R_elder' (xR HO664.out) (Kd.R_base ho0) hb); have n3_ := Aside0.mk (Kd.R_elder' (xR HO668.out) (Kd.R_base ho0) hb); have n4_ := Aside0.mk (Kd.R_lower (Kd.R_new' (Kd.R_new' (Kd.R_new' (Kd.R_new' ho0 (Kd.R_lt (xR HO656.out))) (Kd.R_lt (xR HO660.out))) (Kd.R_lt (xR HO664.out))) (Kd.R_lt (xR HO668.out))) (below_size (xB HB.out))); have n5_ := Aside0.mk (below_step (xB HB.out) hb); clear HO656; clear HO660; clear HO664; clear HO668; clear HB; have HO656 := n0_; have HO660 := n1_; have HO664 := n2_; have HO668 := n3_; have HO672 := n4_; have HB := n5_; clear n0_ n1_ n2_ n3_ n4_ n5_; (try clear hb); (try clear hb2); (try clear hk); (try clear hi); (try clear ho0)) | (go_at_call 207; (with_reducible refine (spec_StuffZeros.calls kj96 _ _ t665 t666 t673 t674 _ ?side1 ?side2 A124.out).mono ?_); (case side1 => exact xC ((Kd.R_reads' HO668.out).2.2)); (case side2 => exact (Kd.R_reads' HO668.out).2.1); rintro e w133 ⟨v675, rfl, ho0, hb⟩; have n0_ := Aside0.mk (Kd.R_elder' (xR HO656.out) (Kd.R_base ho0) hb); have n1_ := Aside0.mk (Kd.R_elder' (xR HO660.out) (Kd.R_base ho0) hb); have n2_ := Aside0.mk (Kd.R_elder' (xR HO664.out) (Kd.R_base ho0) hb); have n3_ := Aside0.mk (Kd.R_elder' (xR HO668.out) (Kd.R_base ho0) hb); have n4_ := Aside0.mk (Kd.R_elder' (xR HO672.out) (Kd.R_base ho0) hb); have n5_ := Aside0.mk (Kd.R_lower (Kd.R_new' (Kd.R_new' (Kd.R_new' (Kd.R_new' (Kd.R_new' ho0 (Kd.R_lt (xR HO656.out))) (Kd.R_lt (xR HO660.out))) (Kd.R_lt (xR HO664.out))) (Kd.R_lt (xR HO668.out))) (Kd.R_lt (xR HO672.out))) (below_size (xB HB.out))); have n6_ := Aside0.mk (below_step (xB HB.out) hb); clear HO656; clear HO660; clear HO664; clear HO668; clear HO672; clear HB; have HO656 := n0_; have HO660 := n1_; have HO664 := n2_; have HO668 := n3_; have HO672 := n4_; have HO676 := n5_; have HB := n6_; clear n0_ n1_ n2_ n3_ n4_ n5_ n6_; (try clear hb); (try clear hb2); (try clear hk); (try clear hi); (try clear ho0))); go_upto_region 57 with (first | (go_at_call 203; (with_reducible refine (spec_DrawDropSamples.calls kj96 _ _ l1 t652 t653 t654 _ ?side1 ?side2 A119.out).mono ?_); (case side1 => exact xC (Kd.C_below HR1.out HB.out)); (case side2 => exact HC1.out); rintro e w126 ⟨v655, rfl, ho0, hb⟩; have n0_ := Aside0.mk (Kd.R_lower ho0 (below_size (xB HB.out))); have n1_ := Aside0.mk (below_step (xB HB.out) hb); clear HB; have HO656 := n0_; have HB := n1_; clear n0_ n1_; (try clear hb); (try clear hb2); (try clear hk); (try clear hi); (try clear ho0); obtain ⟨Ao127, co127, eo127⟩ := Kd.R_slice HO656.out; subst eo127) | (go_at_call 166; (with_reducible refine (impl_DropSamples.calls kj96 _ _ t652 t653 t654 t657 t658 _ ?side1 ?side2 A120.out).mono ?_); (case side1 => exact xC ((Kd.R_reads' HO656.out).2.2)); (case side2 => exact (Kd.R_reads' HO656.out).2.1); rintro e w128 ⟨v659, rfl, ho0, hb⟩; have n0_ := Aside0.mk (Kd.R_elder' (xR HO656.out) (Kd.R_base ho0) hb); have n1_ := Aside0.mk (Kd.R_lower (Kd.R_new' ho0 (Kd.R_lt (xR HO656.out))) (below_size (xB HB.out))); have n2_ := Aside0.mk (below_step (xB HB.out) hb); clear HO656; clear HB; have HO656 := n0_; have HO660 := n1_; have HB := n2_; clear n0_ n1_ n2_; (try clear hb); (try clear hb2); (try clear hk); (try clear hi); (try clear ho0)) | (go_at_call 204; (with_reducible refine (spec_DropSamples.calls kj96 _ _ t652 t653 t654 t661 t662 _ ?side1 ?side2 A121.out).mono ?_); (case side1 => exact xC ((Kd.R_reads' HO656.out).2.2)); (case side2 => exact (Kd.R_reads' HO656.out).2.1); rintro e w129 ⟨v663, rfl, ho0, hb⟩; have n0_ := Aside0.mk (Kd.R_elder' (xR HO656.out) (Kd.R_base ho0) hb); have n1_ := Aside0.mk (Kd.R_elder' (xR HO660.out) (Kd.R_base ho0) hb); have n2_ := Aside0.mk (Kd.R_lower (Kd.R_new' (Kd.R_new' ho0 (Kd.R_lt (xR HO656.out))) (Kd.R_lt (xR HO660.out))) (below_size (xB HB.out))); have n3_ := Aside0.mk (below_step (xB HB.out) hb); clear HO656; clear HO660; clear HB; have HO656 := n0_; have HO660 := n1_; have HO664 := n2_; have HB := n3_; clear n0_ n1_ n2_ n3_; (try clear hb); (try clear hb2); (try clear hk); (try clear hi); (try clear ho0)) | (go_at_call 205; (with_reducible refine (spec_DrawStuffZeros.calls kj96 _ _ l1 t665 t666 _ ?side1 ?side2 A122.out).mono ?_); (case side1 => exact xC (Kd.C_below HR1.out HB.out)); (case side2 => exact HC1.out); rintro e w130 ⟨v667, rfl, ho0, hb⟩; have n0_ := Aside0.mk (Kd.R_elder' (xR HO656.out) (Kd.R_base ho0) hb); have n1_ := Aside0.mk (Kd.R_elder' (xR HO660.out) (Kd.R_base ho0) hb); have n2_ := Aside0.mk (Kd.R_elder' (xR HO664.out) (Kd.R_base ho0) hb); have n3_ := Aside0.mk (Kd.R_lower (Kd.R_new' (Kd.R_new' (Kd.R_new' ho0 (Kd.R_lt (xR HO656.out))) (Kd.R_lt (xR HO660.out))) (Kd.R_lt (xR HO664.out))) (below_size (xB HB.out))); have n4_ := Aside0.mk (below_step (xB HB.out) hb); clear HO656; clear HO660; clear HO664; clear HB; have HO656 := n0_; have HO660 := n1_; have HO664 := n2_; have HO668 := n3_; have HB := n4_; clear n0_ n1_ n2_ n3_ n4_; (try clear hb); (try clear hb2); (try clear hk); (try clear hi); (try clear ho0); obtain ⟨Ao131, co131, eo131⟩ := Kd.R_slice HO668.out; subst eo131) | (go_at_call 206; (with_reducible refine (impl_StuffZeros.calls kj96 _ _ t665 t666 t669 t670 _ ?side1 ?side2 A123.out).mono ?_); (case side1 => exact xC ((Kd.R_reads' HO668.out).2.2)); (case side2 => exact (Kd.R_reads' HO668.out).2.1); rintro e w132 ⟨v671, rfl, ho0, hb⟩; have n0_ := Aside0.mk (Kd.R_elder' (xR HO656.out) (Kd.R_base ho0) hb); have n1_ := Aside0.mk (Kd.R_elder' (xR HO660.out) (Kd.R_base ho0) hb); have n2_ := Aside0.mk (Kd.R_elder' (xR HO664.out) (Kd.R_base ho0) hb); have n3_ := Aside0.mk (Kd.R_elder' (xR HO668.out) (Kd.R_base ho0) hb); have n4_ := Aside0.mk (Kd.R_lower (Kd.R_new' (Kd.R_new' (Kd.R_new' (Kd.R_new' ho0 (Kd.R_lt (xR HO656.out))) (Kd.R_lt (xR HO660.out))) (Kd.R_lt (xR HO664.out))) (Kd.R_lt (xR HO668.out))) (below_size (xB HB.out))); have n5_ := Aside0.mk (below_step (xB HB.out) hb); clear HO656; clear HO660; clear HO664; clear HO668; clear HB; have HO656 := n0_; have HO660 := n1_; have HO664 := n2_; have HO668 := n3_; have HO672 := n4_; have HB := n5_; clear n0_ n1_ n2_ n3_ n4_ n5_; (try clear hb); (try clear hb2); (try clear hk); (try clear hi); (try clear ho0)) | (go_at_call 207; (with_reducible refine (spec_StuffZeros.calls kj96 _ _ t665 t666 t673 t674 _ ?side1 ?side2 A124.out).mono ?_); (case side1 => exact xC ((Kd.R_reads' HO668.out).2.2)); (case side2 => exact (Kd.R_reads' HO668.out).2.1); rintro e w133 ⟨v675, rfl, ho0, hb⟩; have n0_ := Aside0.mk (Kd.R_elder' (xR HO656.out) (Kd.R_base ho0) hb); have n1_ := Aside0.mk (Kd.R_elder' (xR HO660.out) (Kd.R_base ho0) hb); have n2_ := Aside0.mk (Kd.R_elder' (xR HO664.out) (Kd.R_base ho0) hb); have n3_ := Aside0.mk (Kd.R_elder' (xR HO668.out) (Kd.R_base ho0) hb); have n4_ := Aside0.mk (Kd.R_elder' (xR HO672.out) (Kd.R_base ho0) hb); have n5_ := Aside0.mk (Kd.R_lower (Kd.R_new' (Kd.R_new' (Kd.R_new' (Kd.R_new' (Kd.R_new' ho0 (Kd.R_lt (xR HO656.out))) (Kd.R_lt (xR HO660.out))) (Kd.R_lt (xR HO664.out))) (Kd.R_lt (xR HO668.out))) (Kd.R_lt (xR HO672.out))) (below_size (xB HB.out))); have n6_ := Aside0.mk (below_step (xB HB.out) hb); clear HO656; clear HO660; clear HO664; clear HO668; clear HO672; clear HB; have HO656 := n0_; have HO660 := n1_; have HO664 := n2_; have HO668 := n3_; have HO672 := n4_; have HO676 := n5_; have HB := n6_; clear n0_ n1_ n2_ n3_ n4_ n5_ n6_; (try clear hb); (try clear hb2); (try clear hk); (try clear hi); (try clear ho0))))
         (try simp only [Act.put, List.setIfInBounds_toArray, List.set_cons_zero, List.set_cons_succ])
         go_cut [441] from 324 to 421 (fun v441 wc => ∃ (kq : Nat) (x441_124 : Bool), v441 = .bool x441_124 ∧ Aside0 (laws_FnSumsUndone.j11 kq l1 t665 t666 t669 t670 x441_124 = some r) ∧ Aside0 (kq ≤ kj96) ∧ Aside0 (Kd.R (Kd.int .i64) 3 wc w.heap.size (fun k_ => some k_ ≠ (v671 : Value).ownBlock) (.slice Ao131 t665.length co131) t665) ∧ Aside0 (Kd.R (Kd.int .i64) 3 wc w.heap.size (fun k_ => some k_ ≠ ((.slice Ao131 t665.length co131) : Value).ownBlock) v671 t669) ∧ Aside0 (Below w.heap.size w wc))
         case first => as_aux_lemma =>
          have H := HC125.out
          clear HC125
          by_cases c134 : (t658 != t662) = true
          ·as_aux_lemma =>
            rw [if_pos c134] at H
            have c134b0 : (t658 != t662) = true := c134
            (try (have c134b1 : decide (t658 = t662) = false := by simpa using c134))
            (try (have c134b2 : (t658 == t662) = false := by simpa using c134))
            (try (have c134b3 : ¬ (t658 = t662) := by simpa using c134))
            clear c134
            (first | rw [c134b0] | (simp only [i64_w, i32_w]; rw [c134b0]) | skip)
            exact absurd H (by have hr_ := HRT.out; cases kj96 <;> simp [laws_FnSumsUndone.j11, hr_])
          as_aux_lemma =>
           rw [if_neg c134] at H
           have c134b0 : (t658 != t662) = false := by simpa using c134
           (try (have c134b1 : decide (t658 = t662) = true := by simpa using c134))
           (try (have c134b2 : (t658 == t662) = true := by simpa using c134))
           clear c134
           (first | rw [c134b0] | (simp only [i64_w, i32_w]; rw [c134b0]) | skip)
           replace H := Option.bind_eq_some_iff.mp H
           obtain ⟨t677, A1350, H⟩ := H
           (try dsimp only at H)
           have A135 := Aside0.mk A1350
           clear A1350
           by_cases c136 : t677 = true
           rotate_left
           ·replace c136 := Bool.eq_false_iff.mpr c136
            subst c136
            have H1 := H
            rw [if_neg (show ¬ (false = true) by decide)] at H1
            clear H
            have H := H1
            clear H1
            exact absurd H (by have hr_ := HRT.out; cases kj96 <;> simp [laws_FnSumsUndone.j11, hr_])
           subst c136
           have H1 := H
           rw [if_pos rfl] at H1
           clear H
           have H := H1
           clear H1
           by_cases c137 : (t670 != t674) = true
           ·rw [if_pos c137] at H
            have c137b0 : (t670 != t674) = true := c137
            (try (have c137b1 : decide (t670 = t674) = false := by simpa using c137))
            (try (have c137b2 : (t670 == t674) = false := by simpa using c137))
            (try (have c137b3 : ¬ (t670 = t674) := by simpa using c137))
            clear c137
            exact absurd H (by have hr_ := HRT.out; cases kj96 <;> simp [laws_FnSumsUndone.j11, hr_])
           rw [if_neg c137] at H
           have c137b0 : (t670 != t674) = false := by simpa using c137
           (try (have c137b1 : decide (t670 = t674) = true := by simpa using c137))
           (try (have c137b2 : (t670 == t674) = true := by simpa using c137))
           clear c137
           replace H := Option.bind_eq_some_iff.mp H
           obtain ⟨t678, A1380, H⟩ := H
           (try dsimp only at H)
           have A138 := Aside0.mk A1380
           clear A1380
           have H' := Aside0.mk H
           clear H
           obtain ⟨Ao139, co139, eo139⟩ := Kd.R_slice HO660.out
           subst eo139
           obtain ⟨Ao140, co140, eo140⟩ := Kd.R_slice HO664.out
           subst eo140
           go_wp2_with (first | (go_at_call 21; (with_reducible refine (laws_iSame.calls kj96 _ _ t657 _ _ t661 true _ ?side1 ?side2 ?side3 ?side4 A135.out).mono ?_); (case side1 => exact xC ((Kd.R_reads' HO660.out).2.2)); (case side2 => exact (Kd.R_reads' HO660.out).2.1); (case side3 => exact xC ((Kd.R_reads' HO664.out).2.2)); (case side4 => exact (Kd.R_reads' HO664.out).2.1); rintro e w' ⟨rfl, ⟨nd, rfl⟩⟩; (try exact xD); obtain ⟨Ao141, co141, eo141⟩ := Kd.R_slice HO672.out; subst eo141; obtain ⟨Ao142, co142, eo142⟩ := Kd.R_slice HO676.out; subst eo142) | (go_at_call 21; (with_reducible refine (laws_iSame.calls kj96 _ _ t669 _ _ t673 t678 _ ?side1 ?side2 ?side3 ?side4 A138.out).mono ?_); (case side1 => exact xC ((Kd.R_reads' HO672.out).2.2)); (case side2 => exact (Kd.R_reads' HO672.out).2.1); (case side3 => exact xC ((Kd.R_reads' HO676.out).2.2)); (case side4 => exact (Kd.R_reads' HO676.out).2.1); rintro e w' ⟨rfl, ⟨nd, rfl⟩⟩; (try exact xD)))
           repeat (go_quiet (first | (go_at_call 21; (with_reducible refine (laws_iSame.calls kj96 _ _ t657 _ _ t661 true _ ?side1 ?side2 ?side3 ?side4 A135.out).mono ?_); (case side1 => exact xC ((Kd.R_reads' HO660.out).2.2)); (case side2 => exact (Kd.R_reads' HO660.out).2.1); (case side3 => exact xC ((Kd.R_reads' HO664.out).2.2)); (case side4 => exact (Kd.R_reads' HO664.out).2.1); rintro e w' ⟨rfl, ⟨nd, rfl⟩⟩; (try exact xD); obtain ⟨Ao141, co141, eo141⟩ := Kd.R_slice HO672.out; subst eo141; obtain ⟨Ao142, co142, eo142⟩ := Kd.R_slice HO676.out; subst eo142) | (go_at_call 21; (with_reducible refine (laws_iSame.calls kj96 _ _ t669 _ _ t673 t678 _ ?side1 ?side2 ?side3 ?side4 A138.out).mono ?_); (case side1 => exact xC ((Kd.R_reads' HO672.out).2.2)); (case side2 => exact (Kd.R_reads' HO672.out).2.1); (case side3 => exact xC ((Kd.R_reads' HO676.out).2.2)); (case side4 => exact (Kd.R_reads' HO676.out).2.1); rintro e w' ⟨rfl, ⟨nd, rfl⟩⟩; (try exact xD))); try go_wp2_with (first | (go_at_call 21; (with_reducible refine (laws_iSame.calls kj96 _ _ t657 _ _ t661 true _ ?side1 ?side2 ?side3 ?side4 A135.out).mono ?_); (case side1 => exact xC ((Kd.R_reads' HO660.out).2.2)); (case side2 => exact (Kd.R_reads' HO660.out).2.1); (case side3 => exact xC ((Kd.R_reads' HO664.out).2.2)); (case side4 => exact (Kd.R_reads' HO664.out).2.1); rintro e w' ⟨rfl, ⟨nd, rfl⟩⟩; (try exact xD); obtain ⟨Ao141, co141, eo141⟩ := Kd.R_slice HO672.out; subst eo141; obtain ⟨Ao142, co142, eo142⟩ := Kd.R_slice HO676.out; subst eo142) | (go_at_call 21; (with_reducible refine (laws_iSame.calls kj96 _ _ t669 _ _ t673 t678 _ ?side1 ?side2 ?side3 ?side4 A138.out).mono ?_); (case side1 => exact xC ((Kd.R_reads' HO672.out).2.2)); (case side2 => exact (Kd.R_reads' HO672.out).2.1); (case side3 => exact xC ((Kd.R_reads' HO676.out).2.2)); (case side4 => exact (Kd.R_reads' HO676.out).2.1); rintro e w' ⟨rfl, ⟨nd, rfl⟩⟩; (try exact xD))))
           go_meet
           case rel => exact ⟨_, (!t678), (by first | rfl | (simp; done) | (simp [*]; done)), H', ⟨by have := HJ11.out; have := HJ34.out; have := HJ77.out; have := HJ96.out; first | omega | exact Nat.le_refl _⟩, ⟨by (with_reducible repeat (first | apply Kd.R_alloc | apply Kd.R_drewN | apply Kd.R_drew)); exact Kd.R_mono HO668.out (fun _ hk => hk.1.2)⟩, ⟨by (with_reducible repeat (first | apply Kd.R_alloc | apply Kd.R_drewN | apply Kd.R_drew)); exact Kd.R_mono HO672.out (fun _ hk => hk.1.2)⟩, ⟨xB HB.out⟩⟩
         case rest => as_aux_lemma =>
          clear HC125
          obtain ⟨kq, x441_124, rfl, HA, HJ124, HO_54, HO_56, HB⟩ := hcut
          cases kq with
          | zero => exact absurd HA.out (by simp [laws_FnSumsUndone.j11])
          | succ kj124 =>
           have H := HA.out
           clear HA
           simp only [laws_FnSumsUndone.j11] at H
           by_cases c143 : x441_124 = true
           ·as_aux_lemma =>
             subst c143
             have H1 := H
             rw [if_pos rfl] at H1
             clear H
             have H := H1
             clear H1
             exact absurd ((Option.some.inj H).trans HRT.out) (by decide)
           replace c143 := Bool.eq_false_iff.mpr c143
           subst c143
           have H1 := H
           rw [if_neg (show ¬ (false = true) by decide)] at H1
           clear H
           have H := H1
           clear H1
           have HC144 := Aside0.mk H
           clear H
           go_upto_if 442 with (fail)
           repeat (go_quiet (fail); go_upto_if 442 with (fail))
           go_cut [] from 422 to 442 (fun wc => ∃ (kq : Nat), Aside0 (laws_FnSumsUndone.j12 kq l1 = some r) ∧ Aside0 (kq ≤ kj124) ∧ Aside0 (Below w.heap.size w wc))
           case first => as_aux_lemma =>
            have H := HC144.out
            clear HC144
            by_cases c145 : t670 = true
            rotate_left
            ·as_aux_lemma =>
              replace c145 := Bool.eq_false_iff.mpr c145
              subst c145
              have H1 := H
              rw [if_neg (show ¬ (false = true) by decide)] at H1
              clear H
              have H := H1
              clear H1
              have H' := Aside0.mk H
              clear H
              go_wp2
              repeat (go_quiet (fail); try go_wp2)
              go_meet
              case rel => exact ⟨_, H', ⟨by have := HJ11.out; have := HJ34.out; have := HJ77.out; have := HJ96.out; have := HJ124.out; first | omega | exact Nat.le_refl _⟩, ⟨xB HB.out⟩⟩
            subst c145
            have H1 := H
            rw [if_pos rfl] at H1
            clear H
            have H := H1
            clear H1
            replace H := Option.bind_eq_some_iff.mp H
            obtain ⟨⟨t679, t680⟩, A1460, H⟩ := H
            (try dsimp only at H)
            have A146 := Aside0.mk A1460
            clear A1460
            by_cases c147 : t680 = true
            rotate_left
            ·as_aux_lemma =>
              replace c147 := Bool.eq_false_iff.mpr c147
              subst c147
              have H1 := H
              rw [if_neg (show ¬ (false = true) by decide)] at H1
              clear H
              have H := H1
              clear H1
              exact absurd ((Option.some.inj H).trans HRT.out) (by decide)
            subst c147
            have H1 := H
            rw [if_pos rfl] at H1
            clear H
            have H := H1
            clear H1
            replace H := Option.bind_eq_some_iff.mp H
            obtain ⟨t683, A1480, H⟩ := H
            (try dsimp only at H)
            have A148 := Aside0.mk A1480
            clear A1480
            by_cases c149 : t683 = true
            rotate_left
            ·as_aux_lemma =>
              replace c149 := Bool.eq_false_iff.mpr c149
              subst c149
              have H1 := H
              rw [if_neg (show ¬ (false = true) by decide)] at H1
              clear H
              have H := H1
              clear H1
              exact absurd ((Option.some.inj H).trans HRT.out) (by decide)
            as_aux_lemma =>
             subst c149
             have H1 := H
             rw [if_pos rfl] at H1
             clear H
             have H := H1
             clear H1
             replace H := Option.bind_eq_some_iff.mp H
             obtain ⟨t684, A1500, H⟩ := H
             (try dsimp only at H)
             have A150 := Aside0.mk A1500
             clear A1500
             replace H := Option.bind_eq_some_iff.mp H
             obtain ⟨t685, A1510, H⟩ := H
             (try dsimp only at H)
             have A151 := Aside0.mk A1510
             clear A1510
             by_cases c152 : t684 = t685
             rotate_left
             ·rw [if_neg c152] at H
              have c152b0 : (t684 == t685) = false := beq_eq_false_iff_ne.mpr c152
              have c152b1 : (t684 != t685) = true := bne_iff_ne.mpr c152
              (first | rw [c152b0] | (simp only [i64_w, i32_w]; rw [c152b0]) | skip)
              exact absurd ((Option.some.inj H).trans HRT.out) (by decide)
             rw [if_pos c152] at H
             have c152b0 : (t684 == t685) = true := beq_iff_eq.mpr c152
             have c152b1 : (t684 != t685) = false := bne_eq_false_iff_eq.mpr c152
             clear c152
             (first | rw [c152b0] | (simp only [i64_w, i32_w]; rw [c152b0]) | skip)
             by_cases c153 : (t669.length : Int) = (wrap64 (t666 * (t665.length : Int)))
             rotate_left
             ·rw [if_neg c153] at H
              have c153b0 : ((t669.length : Int) == (wrap64 (t666 * (t665.length : Int)))) = false := beq_eq_false_iff_ne.mpr c153
              have c153b1 : ((t669.length : Int) != (wrap64 (t666 * (t665.length : Int)))) = true := bne_iff_ne.mpr c153
              exact absurd ((Option.some.inj H).trans HRT.out) (by decide)
             rw [if_pos c153] at H
             have c153b0 : ((t669.length : Int) == (wrap64 (t666 * (t665.length : Int)))) = true := beq_iff_eq.mpr c153
             have c153b1 : ((t669.length : Int) != (wrap64 (t666 * (t665.length : Int)))) = false := bne_eq_false_iff_eq.mpr c153
             clear c153
             have H' := Aside0.mk H
             clear H
             obtain ⟨Ao154, co154, eo154⟩ := Kd.R_slice HO_56.out
             subst eo154
             go_wp2_with (first | (go_at_call 166; (with_reducible refine (impl_DropSamples.calls kj124 _ _ t669 t666 0 t679 true _ ?side1 ?side2 A146.out).mono ?_); (case side1 => exact xC ((Kd.R_reads' HO_56.out).2.2)); (case side2 => exact (Kd.R_reads' HO_56.out).2.1); rintro e w155 ⟨v681, rfl, ho0, hb⟩; have n0_ := Aside0.mk (Kd.R_elder' (xR HO_54.out) (Kd.R_base ho0) hb); have n1_ := Aside0.mk (Kd.R_elder' (xR HO_56.out) (Kd.R_base ho0) hb); have n2_ := Aside0.mk (Kd.R_lower (Kd.R_new' (Kd.R_new' ho0 (Kd.R_lt (xR HO_54.out))) (Kd.R_lt (xR HO_56.out))) (below_size (xB HB.out))); have n3_ := Aside0.mk (below_step (xB HB.out) hb); clear HO_54; clear HO_56; clear HB; have HO_54 := n0_; have HO_56 := n1_; have HO682 := n2_; have HB := n3_; clear n0_ n1_ n2_ n3_; (try clear hb); (try clear hb2); (try clear hk); (try clear hi); (try clear ho0); obtain ⟨Ao156, co156, eo156⟩ := Kd.R_slice HO682.out; subst eo156) | (go_at_call 21; (with_reducible refine (laws_iSame.calls kj124 _ _ t679 _ _ t665 true _ ?side1 ?side2 ?side3 ?side4 A148.out).mono ?_); (case side1 => exact xC ((Kd.R_reads' HO682.out).2.2)); (case side2 => exact (Kd.R_reads' HO682.out).2.1); (case side3 => exact xC ((Kd.R_reads' HO_54.out).2.2)); (case side4 => exact (Kd.R_reads' HO_54.out).2.1); rintro e w' ⟨rfl, ⟨nd, rfl⟩⟩; (try exact xD)) | (go_at_call 74; (with_reducible refine (laws_iSum.calls kj124 _ _ t669 t684 _ ?side1 ?side2 A150.out).mono ?_); (case side1 => exact xC ((Kd.R_reads' HO_56.out).2.2)); (case side2 => exact (Kd.R_reads' HO_56.out).2.1); rintro e w' ⟨rfl, ⟨nd, rfl⟩⟩; (try exact xD)) | (go_at_call 74; (with_reducible refine (laws_iSum.calls kj124 _ _ t665 t685 _ ?side1 ?side2 A151.out).mono ?_); (case side1 => exact xC ((Kd.R_reads' HO_54.out).2.2)); (case side2 => exact (Kd.R_reads' HO_54.out).2.1); rintro e w' ⟨rfl, ⟨nd, rfl⟩⟩; (try exact xD)))
             repeat (go_quiet (first | (go_at_call 166; (with_reducible refine (impl_DropSamples.calls kj124 _ _ t669 t666 0 t679 true _ ?side1 ?side2 A146.out).mono ?_); (case side1 => exact xC ((Kd.R_reads' HO_56.out).2.2)); (case side2 => exact (Kd.R_reads' HO_56.out).2.1); rintro e w155 ⟨v681, rfl, ho0, hb⟩; have n0_ := Aside0.mk (Kd.R_elder' (xR HO_54.out) (Kd.R_base ho0) hb); have n1_ := Aside0.mk (Kd.R_elder' (xR HO_56.out) (Kd.R_base ho0) hb); have n2_ := Aside0.mk (Kd.R_lower (Kd.R_new' (Kd.R_new' ho0 (Kd.R_lt (xR HO_54.out))) (Kd.R_lt (xR HO_56.out))) (below_size (xB HB.out))); have n3_ := Aside0.mk (below_step (xB HB.out) hb); clear HO_54; clear HO_56; clear HB; have HO_54 := n0_; have HO_56 := n1_; have HO682 := n2_; have HB := n3_; clear n0_ n1_ n2_ n3_; (try clear hb); (try clear hb2); (try clear hk); (try clear hi); (try clear ho0); obtain ⟨Ao156, co156, eo156⟩ := Kd.R_slice HO682.out; subst eo156) | (go_at_call 21; (with_reducible refine (laws_iSame.calls kj124 _ _ t679 _ _ t665 true _ ?side1 ?side2 ?side3 ?side4 A148.out).mono ?_); (case side1 => exact xC ((Kd.R_reads' HO682.out).2.2)); (case side2 => exact (Kd.R_reads' HO682.out).2.1); (case side3 => exact xC ((Kd.R_reads' HO_54.out).2.2)); (case side4 => exact (Kd.R_reads' HO_54.out).2.1); rintro e w' ⟨rfl, ⟨nd, rfl⟩⟩; (try exact xD)) | (go_at_call 74; (with_reducible refine (laws_iSum.calls kj124 _ _ t669 t684 _ ?side1 ?side2 A150.out).mono ?_); (case side1 => exact xC ((Kd.R_reads' HO_56.out).2.2)); (case side2 => exact (Kd.R_reads' HO_56.out).2.1); rintro e w' ⟨rfl, ⟨nd, rfl⟩⟩; (try exact xD)) | (go_at_call 74; (with_reducible refine (laws_iSum.calls kj124 _ _ t665 t685 _ ?side1 ?side2 A151.out).mono ?_); (case side1 => exact xC ((Kd.R_reads' HO_54.out).2.2)); (case side2 => exact (Kd.R_reads' HO_54.out).2.1); rintro e w' ⟨rfl, ⟨nd, rfl⟩⟩; (try exact xD))); try go_wp2_with (first | (go_at_call 166; (with_reducible refine (impl_DropSamples.calls kj124 _ _ t669 t666 0 t679 true _ ?side1 ?side2 A146.out).mono ?_); (case side1 => exact xC ((Kd.R_reads' HO_56.out).2.2)); (case side2 => exact (Kd.R_reads' HO_56.out).2.1); rintro e w155 ⟨v681, rfl, ho0, hb⟩; have n0_ := Aside0.mk (Kd.R_elder' (xR HO_54.out) (Kd.R_base ho0) hb); have n1_ := Aside0.mk (Kd.R_elder' (xR HO_56.out) (Kd.R_base ho0) hb); have n2_ := Aside0.mk (Kd.R_lower (Kd.R_new' (Kd.R_new' ho0 (Kd.R_lt (xR HO_54.out))) (Kd.R_lt (xR HO_56.out))) (below_size (xB HB.out))); have n3_ := Aside0.mk (below_step (xB HB.out) hb); clear HO_54; clear HO_56; clear HB; have HO_54 := n0_; have HO_56 := n1_; have HO682 := n2_; have HB := n3_; clear n0_ n1_ n2_ n3_; (try clear hb); (try clear hb2); (try clear hk); (try clear hi); (try clear ho0); obtain ⟨Ao156, co156, eo156⟩ := Kd.R_slice HO682.out; subst eo156) | (go_at_call 21; (with_reducible refine (laws_iSame.calls kj124 _ _ t679 _ _ t665 true _ ?side1 ?side2 ?side3 ?side4 A148.out).mono ?_); (case side1 => exact xC ((Kd.R_reads' HO682.out).2.2)); (case side2 => exact (Kd.R_reads' HO682.out).2.1); (case side3 => exact xC ((Kd.R_reads' HO_54.out).2.2)); (case side4 => exact (Kd.R_reads' HO_54.out).2.1); rintro e w' ⟨rfl, ⟨nd, rfl⟩⟩; (try exact xD)) | (go_at_call 74; (with_reducible refine (laws_iSum.calls kj124 _ _ t669 t684 _ ?side1 ?side2 A150.out).mono ?_); (case side1 => exact xC ((Kd.R_reads' HO_56.out).2.2)); (case side2 => exact (Kd.R_reads' HO_56.out).2.1); rintro e w' ⟨rfl, ⟨nd, rfl⟩⟩; (try exact xD)) | (go_at_call 74; (with_reducible refine (laws_iSum.calls kj124 _ _ t665 t685 _ ?side1 ?side2 A151.out).mono ?_); (case side1 => exact xC ((Kd.R_reads' HO_54.out).2.2)); (case side2 => exact (Kd.R_reads' HO_54.out).2.1); rintro e w' ⟨rfl, ⟨nd, rfl⟩⟩; (try exact xD))))
             go_meet
             case rel => exact ⟨_, H', ⟨by have := HJ11.out; have := HJ34.out; have := HJ77.out; have := HJ96.out; have := HJ124.out; first | omega | exact Nat.le_refl _⟩, ⟨xB HB.out⟩⟩
           case rest => as_aux_lemma =>
            clear HC144
            try clear c143
            obtain ⟨kq, HA, HJ143, HB⟩ := hcut
            cases kq with
            | zero => exact absurd HA.out (by simp [laws_FnSumsUndone.j12])
            | succ kj143 =>
             have H := HA.out
             clear HA
             simp only [laws_FnSumsUndone.j12] at H
             replace H := Option.bind_eq_some_iff.mp H
             obtain ⟨⟨t686, t687, t688⟩, A1570, H⟩ := H
             (try dsimp only at H)
             have A157 := Aside0.mk A1570
             clear A1570
             replace H := Option.bind_eq_some_iff.mp H
             obtain ⟨⟨t691, t692⟩, A1580, H⟩ := H
             (try dsimp only at H)
             have A158 := Aside0.mk A1580
             clear A1580
             replace H := Option.bind_eq_some_iff.mp H
             obtain ⟨⟨t695, t696⟩, A1590, H⟩ := H
             (try dsimp only at H)
             have A159 := Aside0.mk A1590
             clear A1590
             replace H := Option.bind_eq_some_iff.mp H
             obtain ⟨⟨t699, t700, t701⟩, A1600, H⟩ := H
             (try dsimp only at H)
             have A160 := Aside0.mk A1600
             clear A1600
             replace H := Option.bind_eq_some_iff.mp H
             obtain ⟨⟨t702, t703⟩, A1610, H⟩ := H
             (try dsimp only at H)
             have A161 := Aside0.mk A1610
             clear A1610
             replace H := Option.bind_eq_some_iff.mp H
             obtain ⟨⟨t704, t705⟩, A1620, H⟩ := H
             (try dsimp only at H)
             have A162 := Aside0.mk A1620
             clear A1620
             have HC163 := Aside0.mk H
             clear H
             go_upto_region 69 with (first | (go_at_call 208; (with_reducible refine (spec_DrawMeanBlocks.calls kj143 _ _ l1 t686 t687 t688 _ ?side1 ?side2 A157.out).mono ?_); (case side1 => exact xC (Kd.C_below HR1.out HB.out)); (case side2 => exact HC1.out); rintro e w164 ⟨v689, rfl, ho0, hb⟩; have n0_ := Aside0.mk (Kd.R_lower ho0 (below_size (xB HB.out))); have n1_ := Aside0.mk (below_step (xB HB.out) hb); clear HB; have HO690 := n0_; have HB := n1_; clear n0_ n1_; (try clear hb); (try clear hb2); (try clear hk); (try clear hi); (try clear ho0); obtain ⟨Ao165, co165, eo165⟩ := Kd.R_slice HO690.out; subst eo165) | (go_at_call 209; (with_reducible refine (impl_MeanBlocks.calls kj143 _ _ t686 t687 t688 t691 t692 _ ?side1 ?side2 A158.out).mono ?_); (case side1 => exact xC ((Kd.R_reads' HO690.out).2.2)); (case side2 => exact (Kd.R_reads' HO690.out).2.1); rintro e w166 ⟨v693, rfl, ho0, hb⟩; have n0_ := Aside0.mk (Kd.R_elder' (xR HO690.out) (Kd.R_base ho0) hb); have n1_ := Aside0.mk (Kd.R_lower (Kd.R_new' ho0 (Kd.R_lt (xR HO690.out))) (below_size (xB HB.out))); have n2_ := Aside0.mk (below_step (xB HB.out) hb); clear HO690; clear HB; have HO690 := n0_; have HO694 := n1_; have HB := n2_; clear n0_ n1_ n2_; (try clear hb); (try clear hb2); (try clear hk); (try clear hi); (try clear ho0)) | (go_at_call 210; (with_reducible refine (spec_MeanBlocks.calls kj143 _ _ t686 t687 t688 t695 t696 _ ?side1 ?side2 A159.out).mono ?_); (case side1 => exact xC ((Kd.R_reads' HO690.out).2.2)); (case side2 => exact (Kd.R_reads' HO690.out).2.1); rintro e w167 ⟨v697, rfl, ho0, hb⟩; have n0_ := Aside0.mk (Kd.R_elder' (xR HO690.out) (Kd.R_base ho0) hb); have n1_ := Aside0.mk (Kd.R_elder' (xR HO694.out) (Kd.R_base ho0) hb); have n2_ := Aside0.mk (Kd.R_lower (Kd.R_new' (Kd.R_new' ho0 (Kd.R_lt (xR HO690.out))) (Kd.R_lt (xR HO694.out))) (below_size (xB HB.out))); have n3_ := Aside0.mk (below_step (xB HB.out) hb); clear HO690; clear HO694; clear HB; have HO690 := n0_; have HO694 := n1_; have HO698 := n2_; have HB := n3_; clear n0_ n1_ n2_ n3_; (try clear hb); (try clear hb2); (try clear hk); (try clear hi); (try clear ho0)) | (go_at_call 211; (with_reducible refine (spec_DrawBitsForComb.calls _ _ l1 t699 t700 t701 _ ?side1 ?side2 A160.out).mono ?_); (case side1 => exact xC (Kd.C_below HR1.out HB.out)); (case side2 => exact HC1.out); rintro e w168 ⟨rfl, hb⟩; have n0_ := Aside0.mk (Kd.R_below (xR HO690.out) hb); have n1_ := Aside0.mk (Kd.R_below (xR HO694.out) hb); have n2_ := Aside0.mk (Kd.R_below (xR HO698.out) hb); have n3_ := Aside0.mk (below_step (xB HB.out) hb); clear HO690; clear HO694; clear HO698; clear HB; have HO690 := n0_; have HO694 := n1_; have HO698 := n2_; have HB := n3_; clear n0_ n1_ n2_ n3_; (try clear hb); (try clear hb2); (try clear hk); (try clear hi)) | (go_at_call 129; (with_reducible refine (impl_BitsForComb.calls kj143 t699 t700 t701 t702 t703 _ A161.out).mono ?_); rintro e w169 ⟨rfl, hb⟩; have n0_ := Aside0.mk (Kd.R_below (xR HO690.out) hb); have n1_ := Aside0.mk (Kd.R_below (xR HO694.out) hb); have n2_ := Aside0.mk (Kd.R_below (xR HO698.out) hb); have n3_ := Aside0.mk (below_step (xB HB.out) hb); clear HO690; clear HO694; clear HO698; clear HB; have HO690 := n0_; have HO694 := n1_; have HO698 := n2_; have HB := n3_; clear n0_ n1_ n2_ n3_; (try clear hb); (try clear hb2); (try clear hk); (try clear hi)) | (go_at_call 212; (with_reducible refine (spec_BitsForComb.calls kj143 t699 t700 t701 t704 t705 _ A162.out).mono ?_); rintro e w' ⟨rfl, ⟨nd, rfl⟩⟩; (try exact xD)))
             repeat (go_quiet (first | (go_at_call 208; (with_reducible refine (spec_DrawMeanBlocks.calls kj143 _ _ l1 t686 t687 t688 _ ?side1 ?side2 A157.out).mono ?_); (case side1 => exact xC (Kd.C_below HR1.out HB.out)); (case side2 => exact HC1.out); rintro e w164 ⟨v689, rfl, ho0, hb⟩; have n0_ := Aside0.mk (Kd.R_lower ho0 (below_size (xB HB.out))); have n1_ := Aside0.mk (below_step (xB HB.out) hb); clear HB; have HO690 := n0_; have HB := n1_; clear n0_ n1_; (try clear hb); (try clear hb2); (try clear hk); (try clear hi); (try clear ho0); obtain ⟨Ao165, co165, eo165⟩ := Kd.R_slice HO690.out; subst eo165) | (go_at_call 209; (with_reducible refine (impl_MeanBlocks.calls kj143 _ _ t686 t687 t688 t691 t692 _ ?side1 ?side2 A158.out).mono ?_); (case side1 => exact xC ((Kd.R_reads' HO690.out).2.2)); (case side2 => exact (Kd.R_reads' HO690.out).2.1); rintro e w166 ⟨v693, rfl, ho0, hb⟩; have n0_ := Aside0.mk (Kd.R_elder' (xR HO690.out) (Kd.R_base ho0) hb); have n1_ := Aside0.mk (Kd.R_lower (Kd.R_new' ho0 (Kd.R_lt (xR HO690.out))) (below_size (xB HB.out))); have n2_ := Aside0.mk (below_step (xB HB.out) hb); clear HO690; clear HB; have HO690 := n0_; have HO694 := n1_; have HB := n2_; clear n0_ n1_ n2_; (try clear hb); (try clear hb2); (try clear hk); (try clear hi); (try clear ho0)) | (go_at_call 210; (with_reducible refine (spec_MeanBlocks.calls kj143 _ _ t686 t687 t688 t695 t696 _ ?side1 ?side2 A159.out).mono ?_); (case side1 => exact xC ((Kd.R_reads' HO690.out).2.2)); (case side2 => exact (Kd.R_reads' HO690.out).2.1); rintro e w167 ⟨v697, rfl, ho0, hb⟩; have n0_ := Aside0.mk (Kd.R_elder' (xR HO690.out) (Kd.R_base ho0) hb); have n1_ := Aside0.mk (Kd.R_elder' (xR HO694.out) (Kd.R_base ho0) hb); have n2_ := Aside0.mk (Kd.R_lower (Kd.R_new' (Kd.R_new' ho0 (Kd.R_lt (xR HO690.out))) (Kd.R_lt (xR HO694.out))) (below_size (xB HB.out))); have n3_ := Aside0.mk (below_step (xB HB.out) hb); clear HO690; clear HO694; clear HB; have HO690 := n0_; have HO694 := n1_; have HO698 := n2_; have HB := n3_; clear n0_ n1_ n2_ n3_; (try clear hb); (try clear hb2); (try clear hk); (try clear hi); (try clear ho0)) | (go_at_call 211; (with_reducible refine (spec_DrawBitsForComb.calls _ _ l1 t699 t700 t701 _ ?side1 ?side2 A160.out).mono ?_); (case side1 => exact xC (Kd.C_below HR1.out HB.out)); (case side2 => exact HC1.out); rintro e w168 ⟨rfl, hb⟩; have n0_ := Aside0.mk (Kd.R_below (xR HO690.out) hb); have n1_ := Aside0.mk (Kd.R_below (xR HO694.out) hb); have n2_ := Aside0.mk (Kd.R_below (xR HO698.out) hb); have n3_ := Aside0.mk (below_step (xB HB.out) hb); clear HO690; clear HO694; clear HO698; clear HB; have HO690 := n0_; have HO694 := n1_; have HO698 := n2_; have HB := n3_; clear n0_ n1_ n2_ n3_; (try clear hb); (try clear hb2); (try clear hk); (try clear hi)) | (go_at_call 129; (with_reducible refine (impl_BitsForComb.calls kj143 t699 t700 t701 t702 t703 _ A161.out).mono ?_); rintro e w169 ⟨rfl, hb⟩; have n0_ := Aside0.mk (Kd.R_below (xR HO690.out) hb); have n1_ := Aside0.mk (Kd.R_below (xR HO694.out) hb); have n2_ := Aside0.mk (Kd.R_below (xR HO698.out) hb); have n3_ := Aside0.mk (below_step (xB HB.out) hb); clear HO690; clear HO694; clear HO698; clear HB; have HO690 := n0_; have HO694 := n1_; have HO698 := n2_; have HB := n3_; clear n0_ n1_ n2_ n3_; (try clear hb); (try clear hb2); (try clear hk); (try clear hi)) | (go_at_call 212; (with_reducible refine (spec_BitsForComb.calls kj143 t699 t700 t701 t704 t705 _ A162.out).mono ?_); rintro e w' ⟨rfl, ⟨nd, rfl⟩⟩; (try exact xD))); go_upto_region 69 with (first | (go_at_call 208; (with_reducible refine (spec_DrawMeanBlocks.calls kj143 _ _ l1 t686 t687 t688 _ ?side1 ?side2 A157.out).mono ?_); (case side1 => exact xC (Kd.C_below HR1.out HB.out)); (case side2 => exact HC1.out); rintro e w164 ⟨v689, rfl, ho0, hb⟩; have n0_ := Aside0.mk (Kd.R_lower ho0 (below_size (xB HB.out))); have n1_ := Aside0.mk (below_step (xB HB.out) hb); clear HB; have HO690 := n0_; have HB := n1_; clear n0_ n1_; (try clear hb); (try clear hb2); (try clear hk); (try clear hi); (try clear ho0); obtain ⟨Ao165, co165, eo165⟩ := Kd.R_slice HO690.out; subst eo165) | (go_at_call 209; (with_reducible refine (impl_MeanBlocks.calls kj143 _ _ t686 t687 t688 t691 t692 _ ?side1 ?side2 A158.out).mono ?_); (case side1 => exact xC ((Kd.R_reads' HO690.out).2.2)); (case side2 => exact (Kd.R_reads' HO690.out).2.1); rintro e w166 ⟨v693, rfl, ho0, hb⟩; have n0_ := Aside0.mk (Kd.R_elder' (xR HO690.out) (Kd.R_base ho0) hb); have n1_ := Aside0.mk (Kd.R_lower (Kd.R_new' ho0 (Kd.R_lt (xR HO690.out))) (below_size (xB HB.out))); have n2_ := Aside0.mk (below_step (xB HB.out) hb); clear HO690; clear HB; have HO690 := n0_; have HO694 := n1_; have HB := n2_; clear n0_ n1_ n2_; (try clear hb); (try clear hb2); (try clear hk); (try clear hi); (try clear ho0)) | (go_at_call 210; (with_reducible refine (spec_MeanBlocks.calls kj143 _ _ t686 t687 t688 t695 t696 _ ?side1 ?side2 A159.out).mono ?_); (case side1 => exact xC ((Kd.R_reads' HO690.out).2.2)); (case side2 => exact (Kd.R_reads' HO690.out).2.1); rintro e w167 ⟨v697, rfl, ho0, hb⟩; have n0_ := Aside0.mk (Kd.R_elder' (xR HO690.out) (Kd.R_base ho0) hb); have n1_ := Aside0.mk (Kd.R_elder' (xR HO694.out) (Kd.R_base ho0) hb); have n2_ := Aside0.mk (Kd.R_lower (Kd.R_new' (Kd.R_new' ho0 (Kd.R_lt (xR HO690.out))) (Kd.R_lt (xR HO694.out))) (below_size (xB HB.out))); have n3_ := Aside0.mk (below_step (xB HB.out) hb); clear HO690; clear HO694; clear HB; have HO690 := n0_; have HO694 := n1_; have HO698 := n2_; have HB := n3_; clear n0_ n1_ n2_ n3_; (try clear hb); (try clear hb2); (try clear hk); (try clear hi); (try clear ho0)) | (go_at_call 211; (with_reducible refine (spec_DrawBitsForComb.calls _ _ l1 t699 t700 t701 _ ?side1 ?side2 A160.out).mono ?_); (case side1 => exact xC (Kd.C_below HR1.out HB.out)); (case side2 => exact HC1.out); rintro e w168 ⟨rfl, hb⟩; have n0_ := Aside0.mk (Kd.R_below (xR HO690.out) hb); have n1_ := Aside0.mk (Kd.R_below (xR HO694.out) hb); have n2_ := Aside0.mk (Kd.R_below (xR HO698.out) hb); have n3_ := Aside0.mk (below_step (xB HB.out) hb); clear HO690; clear HO694; clear HO698; clear HB; have HO690 := n0_; have HO694 := n1_; have HO698 := n2_; have HB := n3_; clear n0_ n1_ n2_ n3_; (try clear hb); (try clear hb2); (try clear hk); (try clear hi)) | (go_at_call 129; (with_reducible refine (impl_BitsForComb.calls kj143 t699 t700 t701 t702 t703 _ A161.out).mono ?_); rintro e w169 ⟨rfl, hb⟩; have n0_ := Aside0.mk (Kd.R_below (xR HO690.out) hb); have n1_ := Aside0.mk (Kd.R_below (xR HO694.out) hb); have n2_ := Aside0.mk (Kd.R_below (xR HO698.out) hb); have n3_ := Aside0.mk (below_step (xB HB.out) hb); clear HO690; clear HO694; clear HO698; clear HB; have HO690 := n0_; have HO694 := n1_; have HO698 := n2_; have HB := n3_; clear n0_ n1_ n2_ n3_; (try clear hb); (try clear hb2); (try clear hk); (try clear hi)) | (go_at_call 212; (with_reducible refine (spec_BitsForComb.calls kj143 t699 t700 t701 t704 t705 _ A162.out).mono ?_); rintro e w' ⟨rfl, ⟨nd, rfl⟩⟩; (try exact xD))))
             (try simp only [Act.put, List.setIfInBounds_toArray, List.set_cons_zero, List.set_cons_succ])
             go_cut [543] from 443 to 512 (fun v543 wc => ∃ (kq : Nat) (x543_162 : Bool), v543 = .bool x543_162 ∧ Aside0 (laws_FnSumsUndone.j13 kq t699 t700 t701 t702 t703 x543_162 = some r) ∧ Aside0 (kq ≤ kj143) ∧ Aside0 (Below w.heap.size w wc))
             case first => as_aux_lemma =>
              have H := HC163.out
              clear HC163
              by_cases c170 : (t692 != t696) = true
              ·as_aux_lemma =>
                rw [if_pos c170] at H
                have c170b0 : (t692 != t696) = true := c170
                (try (have c170b1 : decide (t692 = t696) = false := by simpa using c170))
                (try (have c170b2 : (t692 == t696) = false := by simpa using c170))
                (try (have c170b3 : ¬ (t692 = t696) := by simpa using c170))
                clear c170
                (first | rw [c170b0] | (simp only [i64_w, i32_w]; rw [c170b0]) | skip)
                exact absurd H (by have hr_ := HRT.out; cases kj143 <;> simp [laws_FnSumsUndone.j13, hr_])
              rw [if_neg c170] at H
              have c170b0 : (t692 != t696) = false := by simpa using c170
              (try (have c170b1 : decide (t692 = t696) = true := by simpa using c170))
              (try (have c170b2 : (t692 == t696) = true := by simpa using c170))
              clear c170
              (first | rw [c170b0] | (simp only [i64_w, i32_w]; rw [c170b0]) | skip)
              replace H := Option.bind_eq_some_iff.mp H
              obtain ⟨t706, A1710, H⟩ := H
              (try dsimp only at H)
              have A171 := Aside0.mk A1710
              clear A1710
              by_cases c172 : t706 = true
              rotate_left
              ·as_aux_lemma =>
                replace c172 := Bool.eq_false_iff.mpr c172
                subst c172
                have H1 := H
                rw [if_neg (show ¬ (false = true) by decide)] at H1
                clear H
                have H := H1
                clear H1
                exact absurd H (by have hr_ := HRT.out; cases kj143 <;> simp [laws_FnSumsUndone.j13, hr_])
              subst c172
              have H1 := H
              rw [if_pos rfl] at H1
              clear H
              have H := H1
              clear H1
              by_cases c173 : (t703 != t705) = true
              ·as_aux_lemma =>
                rw [if_pos c173] at H
                have c173b0 : (t703 != t705) = true := c173
                (try (have c173b1 : decide (t703 = t705) = false := by simpa using c173))
                (try (have c173b2 : (t703 == t705) = false := by simpa using c173))
                (try (have c173b3 : ¬ (t703 = t705) := by simpa using c173))
                clear c173
                exact absurd H (by have hr_ := HRT.out; cases kj143 <;> simp [laws_FnSumsUndone.j13, hr_])
              as_aux_lemma =>
               rw [if_neg c173] at H
               have c173b0 : (t703 != t705) = false := by simpa using c173
               (try (have c173b1 : decide (t703 = t705) = true := by simpa using c173))
               (try (have c173b2 : (t703 == t705) = true := by simpa using c173))
               clear c173
               by_cases c174 : t702 = t704
               rotate_left
               ·rw [if_neg c174] at H
                have c174b0 : (t702 == t704) = false := beq_eq_false_iff_ne.mpr c174
                have c174b1 : (t702 != t704) = true := bne_iff_ne.mpr c174
                exact absurd H (by have hr_ := HRT.out; cases kj143 <;> simp [laws_FnSumsUndone.j13, hr_])
               rw [if_pos c174] at H
               have c174b0 : (t702 == t704) = true := beq_iff_eq.mpr c174
               have c174b1 : (t702 != t704) = false := bne_eq_false_iff_eq.mpr c174
               clear c174
               by_cases c175 : t692 = true
               rotate_left
               ·as_aux_lemma =>
                  replace c175 := Bool.eq_false_iff.mpr c175
                  subst c175
                  have H1 := H
                  rw [if_neg (show ¬ (false = true) by decide)] at H1
                  clear H
                  have H := H1
                  clear H1
                  have H' := Aside0.mk H
                  clear H
                  obtain ⟨Ao179, co179, eo179⟩ := Kd.R_slice HO694.out
                  subst eo179
                  obtain ⟨Ao180, co180, eo180⟩ := Kd.R_slice HO698.out
                  subst eo180
                  go_wp2_with (first | (go_at_call 21; (with_reducible refine (laws_iSame.calls kj143 _ _ t691 _ _ t695 true _ ?side1 ?side2 ?side3 ?side4 A171.out).mono ?_); (case side1 => exact xC ((Kd.R_reads' HO694.out).2.2)); (case side2 => exact (Kd.R_reads' HO694.out).2.1); (case side3 => exact xC ((Kd.R_reads' HO698.out).2.2)); (case side4 => exact (Kd.R_reads' HO698.out).2.1); rintro e w' ⟨rfl, ⟨nd, rfl⟩⟩; (try exact xD)))
                  repeat (go_quiet (first | (go_at_call 21; (with_reducible refine (laws_iSame.calls kj143 _ _ t691 _ _ t695 true _ ?side1 ?side2 ?side3 ?side4 A171.out).mono ?_); (case side1 => exact xC ((Kd.R_reads' HO694.out).2.2)); (case side2 => exact (Kd.R_reads' HO694.out).2.1); (case side3 => exact xC ((Kd.R_reads' HO698.out).2.2)); (case side4 => exact (Kd.R_reads' HO698.out).2.1); rintro e w' ⟨rfl, ⟨nd, rfl⟩⟩; (try exact xD))); try go_wp2_with (first | (go_at_call 21; (with_reducible refine (laws_iSame.calls kj143 _ _ t691 _ _ t695 true _ ?side1 ?side2 ?side3 ?side4 A171.out).mono ?_); (case side1 => exact xC ((Kd.R_reads' HO694.out).2.2)); (case side2 => exact (Kd.R_reads' HO694.out).2.1); (case side3 => exact xC ((Kd.R_reads' HO698.out).2.2)); (case side4 => exact (Kd.R_reads' HO698.out).2.1); rintro e w' ⟨rfl, ⟨nd, rfl⟩⟩; (try exact xD))))
                  go_meet
                  case rel => exact ⟨_, (false), (by first | rfl | (simp; done) | (simp [*]; done)), H', ⟨by have := HJ11.out; have := HJ34.out; have := HJ77.out; have := HJ96.out; have := HJ124.out; have := HJ143.out; first | omega | exact Nat.le_refl _⟩, ⟨xB HB.out⟩⟩
               subst c175
               have H1 := H
               rw [if_pos rfl] at H1
               clear H
               have H := H1
               clear H1
               by_cases c176 : t687 = 0
               ·rw [if_pos c176] at H
                exact absurd H (by simp)
               rw [if_neg c176] at H
               have c176b0 : (t687 == 0) = false := beq_eq_false_iff_ne.mpr c176
               have c176b1 : (t687 != 0) = true := bne_iff_ne.mpr c176
               have H' := Aside0.mk H
               clear H
               obtain ⟨Ao177, co177, eo177⟩ := Kd.R_slice HO694.out
               subst eo177
               obtain ⟨Ao178, co178, eo178⟩ := Kd.R_slice HO698.out
               subst eo178
               go_wp2_with (first | (go_at_call 21; (with_reducible refine (laws_iSame.calls kj143 _ _ t691 _ _ t695 true _ ?side1 ?side2 ?side3 ?side4 A171.out).mono ?_); (case side1 => exact xC ((Kd.R_reads' HO694.out).2.2)); (case side2 => exact (Kd.R_reads' HO694.out).2.1); (case side3 => exact xC ((Kd.R_reads' HO698.out).2.2)); (case side4 => exact (Kd.R_reads' HO698.out).2.1); rintro e w' ⟨rfl, ⟨nd, rfl⟩⟩; (try exact xD)))
               repeat (go_quiet (first | (go_at_call 21; (with_reducible refine (laws_iSame.calls kj143 _ _ t691 _ _ t695 true _ ?side1 ?side2 ?side3 ?side4 A171.out).mono ?_); (case side1 => exact xC ((Kd.R_reads' HO694.out).2.2)); (case side2 => exact (Kd.R_reads' HO694.out).2.1); (case side3 => exact xC ((Kd.R_reads' HO698.out).2.2)); (case side4 => exact (Kd.R_reads' HO698.out).2.1); rintro e w' ⟨rfl, ⟨nd, rfl⟩⟩; (try exact xD))); try go_wp2_with (first | (go_at_call 21; (with_reducible refine (laws_iSame.calls kj143 _ _ t691 _ _ t695 true _ ?side1 ?side2 ?side3 ?side4 A171.out).mono ?_); (case side1 => exact xC ((Kd.R_reads' HO694.out).2.2)); (case side2 => exact (Kd.R_reads' HO694.out).2.1); (case side3 => exact xC ((Kd.R_reads' HO698.out).2.2)); (case side4 => exact (Kd.R_reads' HO698.out).2.1); rintro e w' ⟨rfl, ⟨nd, rfl⟩⟩; (try exact xD))))
               go_meet
               case rel => exact ⟨_, (((t691.length : Int) != (wrap64 ((t686.length : Int) / t687)))), (by first | rfl | (simp; done) | (simp [*]; done)), H', ⟨by have := HJ11.out; have := HJ34.out; have := HJ77.out; have := HJ96.out; have := HJ124.out; have := HJ143.out; first | omega | exact Nat.le_refl _⟩, ⟨xB HB.out⟩⟩
             case rest => as_aux_lemma =>
              clear HC163
              obtain ⟨kq, x543_162, rfl, HA, HJ162, HB⟩ := hcut
              cases kq with
              | zero => exact absurd HA.out (by simp [laws_FnSumsUndone.j13])
              | succ kj162 =>
               have H := HA.out
               clear HA
               simp only [laws_FnSumsUndone.j13] at H
               by_cases c181 : x543_162 = true
               ·as_aux_lemma =>
                 subst c181
                 have H1 := H
                 rw [if_pos rfl] at H1
                 clear H
                 have H := H1
                 clear H1
                 exact absurd ((Option.some.inj H).trans HRT.out) (by decide)
               replace c181 := Bool.eq_false_iff.mpr c181
               subst c181
               have H1 := H
               rw [if_neg (show ¬ (false = true) by decide)] at H1
               clear H
               have H := H1
               clear H1
               by_cases c182 : t703 = true
               rotate_left
               ·as_aux_lemma =>
                 replace c182 := Bool.eq_false_iff.mpr c182
                 subst c182
                 have H1 := H
                 rw [if_neg (show ¬ (false = true) by decide)] at H1
                 clear H
                 have H := H1
                 clear H1
                 obtain rfl := Option.some.inj H
                 go_wp2
                 repeat (go_quiet (fail); try go_wp2)
                 go_ret
                 exact ⟨by first | rfl | (simp [errW_none, errW_some] <;> rfl) | (simp [*, errW_none, errW_some] <;> rfl), xB HB.out⟩

               subst c182
               have H1 := H
               rw [if_pos rfl] at H1
               clear H
               have H := H1
               clear H1
               replace H := Option.bind_eq_some_iff.mp H
               obtain ⟨⟨t707, t708⟩, A1830, H⟩ := H
               (try dsimp only at H)
               have A183 := Aside0.mk A1830
               clear A1830
               by_cases c184 : t708 = true
               rotate_left
               ·as_aux_lemma =>
                 replace c184 := Bool.eq_false_iff.mpr c184
                 subst c184
                 have H1 := H
                 rw [if_neg (show ¬ (false = true) by decide)] at H1
                 clear H
                 have H := H1
                 clear H1
                 exact absurd ((Option.some.inj H).trans HRT.out) (by decide)
               subst c184
               have H1 := H
               rw [if_pos rfl] at H1
               clear H
               have H := H1
               clear H1
               obtain ⟨ji185, hji185⟩ : ∃ j_ : Int, (wrap64 (t699 - 1)) = j_ := ⟨_, rfl⟩
               replace H : (if 0 ≤ (ji185) then (if 0 ≤ (wrap64 (t702 - 1)) then (if (shl .i64 t707 (ji185)) ≤ (shl .i64 1 (wrap64 (t702 - 1))) then (if t702 = 2 then (some true) else (if 0 ≤ (wrap64 (t702 - 2)) then (some (decide ((shl .i64 t707 (ji185)) > (shl .i64 1 (wrap64 (t702 - 2)))))) else (none))) else (some false)) else (none)) else (none)) = some r := by first | (rw [hji185] at H; exact H) | (simp only [hji185] at H ⊢; exact H)
               (try rw [hji185] at A183)
               have hji185w : (IntKind.i64.wrap (t699 - 1)) = ji185 := (i64_w _).trans hji185
               by_cases c186 : 0 ≤ (ji185)
               rotate_left
               ·rw [if_neg c186] at H
                exact absurd H (by simp)
               rw [if_pos c186] at H
               have c186b0 := eq_true c186
               have c186b1 : decide (0 ≤ (ji185)) = true := decide_eq_true c186
               clear c186
               obtain ⟨ji187, hji187⟩ : ∃ j_ : Int, (shl .i64 t707 (ji185)) = j_ := ⟨_, rfl⟩
               replace H : (if 0 ≤ (wrap64 (t702 - 1)) then (if (ji187) ≤ (shl .i64 1 (wrap64 (t702 - 1))) then (if t702 = 2 then (some true) else (if 0 ≤ (wrap64 (t702 - 2)) then (some (decide ((ji187) > (shl .i64 1 (wrap64 (t702 - 2)))))) else (none))) else (some false)) else (none)) = some r := by first | (rw [hji187] at H; exact H) | (simp only [hji187] at H ⊢; exact H)
               (try rw [hji187] at A183)
               have hji187_ : (IntKind.i64.wrap (t707 * 2 ^ min (ji185).toNat 64)) = ji187 := hji187
               have hji187z : (ji185) ≤ 64 → (IntKind.i64.wrap (t707 * 2 ^ (ji185).toNat)) = ji187 := shl_small hji187
               have hji187y : (wrap64 (t707 * 2 ^ min (ji185).toNat 64)) = ji187 := (i64_w _).symm.trans hji187_
               have hji187x : (ji185) ≤ 64 → (wrap64 (t707 * 2 ^ (ji185).toNat)) = ji187 := fun h_ => (i64_w _).symm.trans (hji187z h_)
               obtain ⟨ji188, hji188⟩ : ∃ j_ : Int, (wrap64 (t702 - 1)) = j_ := ⟨_, rfl⟩
               replace H : (if 0 ≤ (ji188) then (if (ji187) ≤ (shl .i64 1 (ji188)) then (if t702 = 2 then (some true) else (if 0 ≤ (wrap64 (t702 - 2)) then (some (decide ((ji187) > (shl .i64 1 (wrap64 (t702 - 2)))))) else (none))) else (some false)) else (none)) = some r := by first | (rw [hji188] at H; exact H) | (simp only [hji188] at H ⊢; exact H)
               (try rw [hji188] at A183)
               have hji188w : (IntKind.i64.wrap (t702 - 1)) = ji188 := (i64_w _).trans hji188
               by_cases c189 : 0 ≤ (ji188)
               rotate_left
               ·rw [if_neg c189] at H
                exact absurd H (by simp)
               as_aux_lemma =>
                rw [if_pos c189] at H
                have c189b0 := eq_true c189
                have c189b1 : decide (0 ≤ (ji188)) = true := decide_eq_true c189
                clear c189
                obtain ⟨ji190, hji190⟩ : ∃ j_ : Int, (shl .i64 1 (ji188)) = j_ := ⟨_, rfl⟩
                replace H : (if (ji187) ≤ (ji190) then (if t702 = 2 then (some true) else (if 0 ≤ (wrap64 (t702 - 2)) then (some (decide ((ji187) > (shl .i64 1 (wrap64 (t702 - 2)))))) else (none))) else (some false)) = some r := by first | (rw [hji190] at H; exact H) | (simp only [hji190] at H ⊢; exact H)
                (try rw [hji190] at A183)
                have hji190_ : (IntKind.i64.wrap (1 * 2 ^ min (ji188).toNat 64)) = ji190 := hji190
                have hji190z : (ji188) ≤ 64 → (IntKind.i64.wrap (1 * 2 ^ (ji188).toNat)) = ji190 := shl_small hji190
                have hji190u : (IntKind.i64.wrap (2 ^ min (ji188).toNat 64)) = ji190 := by have h_ := hji190_; rw [Int.one_mul] at h_; exact h_
                have hji190v : (ji188) ≤ 64 → (IntKind.i64.wrap (2 ^ (ji188).toNat)) = ji190 := fun hle_ => by have h_ := hji190z hle_; rw [Int.one_mul] at h_; exact h_
                have hji190y : (wrap64 (1 * 2 ^ min (ji188).toNat 64)) = ji190 := (i64_w _).symm.trans hji190_
                have hji190x : (ji188) ≤ 64 → (wrap64 (1 * 2 ^ (ji188).toNat)) = ji190 := fun h_ => (i64_w _).symm.trans (hji190z h_)
                by_cases c191 : (ji187) ≤ (ji190)
                rotate_left
                ·rw [if_neg c191] at H
                 have c191b0 : decide ((ji187) ≤ (ji190)) = false := decide_eq_false c191
                 clear c191
                 exact absurd ((Option.some.inj H).trans HRT.out) (by decide)
                rw [if_pos c191] at H
                have c191b0 : decide ((ji187) ≤ (ji190)) = true := decide_eq_true c191
                clear c191
                by_cases c192 : t702 = 2
                ·as_aux_lemma =>
                   rw [if_pos c192] at H
                   have c192b0 : (t702 == 2) = true := beq_iff_eq.mpr c192
                   have c192b1 : (t702 != 2) = false := bne_eq_false_iff_eq.mpr c192
                   clear c192
                   obtain rfl := Option.some.inj H
                   go_wp2_with (first | (go_at_call 199; (with_reducible refine (impl_CombGain.calls kj162 t700 t701 t707 true _ A183.out).mono ?_); rintro e w193 ⟨rfl, hb⟩; have n0_ := Aside0.mk (below_step (xB HB.out) hb); clear HB; have HB := n0_; clear n0_; (try clear hb); (try clear hb2); (try clear hk); (try clear hi)))
                   repeat (go_quiet (first | (go_at_call 199; (with_reducible refine (impl_CombGain.calls kj162 t700 t701 t707 true _ A183.out).mono ?_); rintro e w193 ⟨rfl, hb⟩; have n0_ := Aside0.mk (below_step (xB HB.out) hb); clear HB; have HB := n0_; clear n0_; (try clear hb); (try clear hb2); (try clear hk); (try clear hi))); try go_wp2_with (first | (go_at_call 199; (with_reducible refine (impl_CombGain.calls kj162 t700 t701 t707 true _ A183.out).mono ?_); rintro e w193 ⟨rfl, hb⟩; have n0_ := Aside0.mk (below_step (xB HB.out) hb); clear HB; have HB := n0_; clear n0_; (try clear hb); (try clear hb2); (try clear hk); (try clear hi))))
                   go_ret
                   exact ⟨by first | rfl | (simp [errW_none, errW_some] <;> rfl) | (simp only [← hji185, ← hji187, ← hji188, ← hji190]; first | rfl | (simp [errW_none, errW_some] <;> rfl)) | (simp [*, errW_none, errW_some] <;> rfl), xB HB.out⟩
                rw [if_neg c192] at H
                have c192b0 : (t702 == 2) = false := beq_eq_false_iff_ne.mpr c192
                have c192b1 : (t702 != 2) = true := bne_iff_ne.mpr c192
                have c194b0 := eq_true (of_decide_eq_true (by first | (with_reducible assumption) | assumption) : 0 ≤ (ji185))
                obtain ⟨ji195, hji195⟩ : ∃ j_ : Int, (wrap64 (t702 - 2)) = j_ := ⟨_, rfl⟩
                replace H : (if 0 ≤ (ji195) then (some (decide ((ji187) > (shl .i64 1 (ji195))))) else (none)) = some r := by first | (rw [hji195] at H; exact H) | (simp only [hji195] at H ⊢; exact H)
                (try rw [hji195] at A183)
                have hji195w : (IntKind.i64.wrap (t702 - 2)) = ji195 := (i64_w _).trans hji195
                by_cases c196 : 0 ≤ (ji195)
                rotate_left
                ·rw [if_neg c196] at H
                 exact absurd H (by simp)
                rw [if_pos c196] at H
                have c196b0 := eq_true c196
                have c196b1 : decide (0 ≤ (ji195)) = true := decide_eq_true c196
                clear c196
                obtain ⟨ji197, hji197⟩ : ∃ j_ : Int, (shl .i64 1 (ji195)) = j_ := ⟨_, rfl⟩
                replace H : (some (decide ((ji187) > (ji197)))) = some r := by first | (rw [hji197] at H; exact H) | (simp only [hji197] at H ⊢; exact H)
                (try rw [hji197] at A183)
                have hji197_ : (IntKind.i64.wrap (1 * 2 ^ min (ji195).toNat 64)) = ji197 := hji197
                have hji197z : (ji195) ≤ 64 → (IntKind.i64.wrap (1 * 2 ^ (ji195).toNat)) = ji197 := shl_small hji197
                have hji197u : (IntKind.i64.wrap (2 ^ min (ji195).toNat 64)) = ji197 := by have h_ := hji197_; rw [Int.one_mul] at h_; exact h_
                have hji197v : (ji195) ≤ 64 → (IntKind.i64.wrap (2 ^ (ji195).toNat)) = ji197 := fun hle_ => by have h_ := hji197z hle_; rw [Int.one_mul] at h_; exact h_
                have hji197y : (wrap64 (1 * 2 ^ min (ji195).toNat 64)) = ji197 := (i64_w _).symm.trans hji197_
                have hji197x : (ji195) ≤ 64 → (wrap64 (1 * 2 ^ (ji195).toNat)) = ji197 := fun h_ => (i64_w _).symm.trans (hji197z h_)
                obtain rfl := Option.some.inj H
                go_wp2_with (first | (go_at_call 199; (with_reducible refine (impl_CombGain.calls kj162 t700 t701 t707 true _ A183.out).mono ?_); rintro e w198 ⟨rfl, hb⟩; have n0_ := Aside0.mk (below_step (xB HB.out) hb); clear HB; have HB := n0_; clear n0_; (try clear hb); (try clear hb2); (try clear hk); (try clear hi)))
                repeat (go_quiet (first | (go_at_call 199; (with_reducible refine (impl_CombGain.calls kj162 t700 t701 t707 true _ A183.out).mono ?_); rintro e w198 ⟨rfl, hb⟩; have n0_ := Aside0.mk (below_step (xB HB.out) hb); clear HB; have HB := n0_; clear n0_; (try clear hb); (try clear hb2); (try clear hk); (try clear hi))); try go_wp2_with (first | (go_at_call 199; (with_reducible refine (impl_CombGain.calls kj162 t700 t701 t707 true _ A183.out).mono ?_); rintro e w198 ⟨rfl, hb⟩; have n0_ := Aside0.mk (below_step (xB HB.out) hb); clear HB; have HB := n0_; clear n0_; (try clear hb); (try clear hb2); (try clear hk); (try clear hi))))
                go_ret
                exact ⟨by first | rfl | (simp [errW_none, errW_some] <;> rfl) | (simp only [← hji185, ← hji187, ← hji188, ← hji190, ← hji195, ← hji197]; first | rfl | (simp [errW_none, errW_some] <;> rfl)) | (simp [*, errW_none, errW_some] <;> rfl), xB HB.out⟩
/-- THE ONE PURE STATEMENT of laws_FnSumsUndone: yours. -/
def laws_FnSumsUndone.Pure : Prop := ∀ (l0 : List Int) (l1 : List Int), l0.length ≤ maxLen → l0.length * 1 ≤ 140737488351232 → (∀ x ∈ l0, (Lit.int .u8 x).wf = true) → l1.length ≤ maxLen → l1.length * 1 ≤ 140737488351232 → (∀ x ∈ l1, (Lit.int .u8 x).wf = true) → ∃ k, laws_FnSumsUndone.f k l0 l1 = some true
theorem laws_FnSumsUndone.walk (P : laws_FnSumsUndone.Pure) (a0 : Option Addr) (len0 cap0 : Nat) (z0 : List Int) (a1 : Option Addr) (len1 cap1 : Nat) (z1 : List Int) (w : World) (w0 : (a0 = none ∧ len0 = 0 ∧ cap0 = 0 ∧ z0 = []) ∨ ∃ x, a0 = some x ∧ len0 ≤ cap0 ∧ cap0 ≤ maxLen ∧ z0.length = cap0 ∧ (∀ i, i < z0.length → w.cell? (x.add i) = some (.int .u8 (z0.getD i 0))) ∧ ∀ n ∈ z0, (Lit.int .u8 n).wf = true) (y0 : len0 * 1 ≤ 140737488351232) (w1 : (a1 = none ∧ len1 = 0 ∧ cap1 = 0 ∧ z1 = []) ∨ ∃ x, a1 = some x ∧ len1 ≤ cap1 ∧ cap1 ≤ maxLen ∧ z1.length = cap1 ∧ (∀ i, i < z1.length → w.cell? (x.add i) = some (.int .u8 (z1.getD i 0))) ∧ ∀ n ∈ z1, (Lit.int .u8 n).wf = true) (y1 : len1 * 1 ≤ 140737488351232) :
  Calls Try.prog 12 #[.slice a0 len0 cap0, .slice a1 len1 cap1] w fun e w' => e = .returned (.bool true) ∧ Below w.heap.size w w' := by
 obtain ⟨l0, rfl, hr0, hm0, hw0, hc0⟩ := ReadsInt.ofRowC w0
 obtain ⟨l1, rfl, hr1, hm1, hw1, hc1⟩ := ReadsInt.ofRowC w1
 obtain ⟨k, h⟩ := P l0 l1 hm0 y0 hw0 hm1 y1 hw1
 refine (laws_FnSumsUndone.calls k _ _ l0 _ _ l1 true w (Kd.C_of_reads (d := (0 : Int)) (h1 := fun _ => rfl) hr0) hc0 (Kd.C_of_reads (d := (0 : Int)) (h1 := fun _ => rfl) hr1) hc1 h rfl).mono ?_
 rintro e w' ⟨rfl, hd⟩
 exact ⟨rfl, hd⟩

end Go.Proofs.Ytjplcongellcmaa.PFnSumsUndone
