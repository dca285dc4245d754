/- What each Go function that the statement FnStepsAdapt reaches answers, proved call by call. No condition beyond those that the theorems print. (Written by wip/tools/xprint.py of this repo, over the kit's print.) -/
import Derived.Test.YtjplcongellcmaaPFnStepsAdaptx0
import Derived.Test.YtjplcongellcmaaPFnStepsAdaptx1
import Derived.Test.YtjplcongellcmaaPFnStepsAdaptx3
import Derived.Test.YtjplcongellcmaaPFnStepsAdaptx4
import Derived.Test.YtjplcongellcmaaPFnStepsAdaptx5
import Derived.Test.YtjplcongellcmaaPFnStepsAdaptx6
import Derived.Test.YtjplcongellcmaaPFnStepsAdaptx7
import Derived.Test.YtjplcongellcmaaPFnStepsAdaptx8
import Derived.Test.YtjplcongellcmaaPFnStepsAdaptx9
import Derived.Test.YtjplcongellcmaaPFnStepsAdaptx10
namespace Go.Proofs.Ytjplcongellcmaa.PFnStepsAdapt
open Go.RowKit Go.Proofs.YtjplcongellcmaaW.PrintWords Go.Proofs.YtjplcongellcmaaW.PrintLast Go.Proofs.YtjplcongellcmaaW.PrintMore
attribute [local go_sem] max2_int min2_int max_two min_two max_three min_three max_four min_four   -- for this text's walks alone
set_option linter.unusedVariables false
set_option linter.unusedSimpArgs false

set_option maxHeartbeats 200000000 in
set_option maxRecDepth 100000 in
theorem laws_FnStepsAdapt.calls (k : Nat) (A0 : Option Addr) (c0 : Nat) (l0 : List Int) (A1 : Option Addr) (c1 : Nat) (l1 : List Int) (r : Bool) (w : World) (hr0 : Kd.C (Kd.int .u8) w A0 l0.length l0) (hc0 : l0.length ≤ c0) (hr1 : Kd.C (Kd.int .u8) w A1 l1.length l1) (hc1 : l1.length ≤ c1) (h : laws_FnStepsAdapt.f k l0 l1 = some r) (hr_ : r = true) :
  Calls Try.prog 4 #[.slice A0 l0.length c0, .slice A1 l1.length c1] w fun e w' => e = .returned (.bool r) ∧ Below w.heap.size w w' := by
 have HRT := Aside0.mk hr_
 clear hr_
 have HR0 := Aside0.mk hr0
 have HC0 := Aside0.mk hc0
 clear hr0 hc0
 have HR1 := Aside0.mk hr1
 have HC1 := Aside0.mk hc1
 clear hr1 hc1
 have HB := Aside0.mk (Below.refl w.heap.size w)
 have H : ((laws_big.f l0 l1).bind fun t490 => (if t490 = true then (some true) else ((spec_DrawStepBits.f k l0).bind fun bt491 => ((impl_StepBits.f k bt491.1 bt491.2).bind fun bt495 => ((spec_StepBits.f k bt491.1 bt491.2).bind fun bt499 => ((impl_StepGaps.f k bt491.1 bt491.2).bind fun bt503 => ((spec_StepGaps.f k bt491.1 bt491.2).bind fun bt507 => ((impl_GreatestGap.f k bt491.1 bt491.2).bind fun bt511 => ((spec_GreatestGap.f k bt491.1 bt491.2).bind fun bt513 => ((impl_FixedBits.f k bt491.1 bt491.2).bind fun bt515 => ((spec_FixedBits.f k bt491.1 bt491.2).bind fun bt519 => (if (bt495.2 != bt499.2) = true then (laws_FnStepsAdapt.j0 k l1 bt491.1 bt491.2 bt495.1 bt495.2 bt503.1 bt503.2 bt511.1 bt515.1 true) else ((laws_uSame.f k bt495.1 bt499.1).bind fun t523 => (if t523 = true then (if (bt503.2 != bt507.2) = true then (laws_FnStepsAdapt.j0 k l1 bt491.1 bt491.2 bt495.1 bt495.2 bt503.1 bt503.2 bt511.1 bt515.1 true) else ((laws_uSame.f k bt503.1 bt507.1).bind fun t524 => (if t524 = true then (if (bt511.2 != bt513.2) = true then (laws_FnStepsAdapt.j0 k l1 bt491.1 bt491.2 bt495.1 bt495.2 bt503.1 bt503.2 bt511.1 bt515.1 true) else (if bt511.1 = bt513.1 then (if (bt515.2 != bt519.2) = true then (laws_FnStepsAdapt.j0 k l1 bt491.1 bt491.2 bt495.1 bt495.2 bt503.1 bt503.2 bt511.1 bt515.1 true) else ((laws_uSame.f k bt515.1 bt519.1).bind fun t525 => (if t525 = true then (if (bt511.2 != bt503.2) = true then (laws_FnStepsAdapt.j0 k l1 bt491.1 bt491.2 bt495.1 bt495.2 bt503.1 bt503.2 bt511.1 bt515.1 true) else (if (bt515.2 != bt495.2) = true then (laws_FnStepsAdapt.j0 k l1 bt491.1 bt491.2 bt495.1 bt495.2 bt503.1 bt503.2 bt511.1 bt515.1 true) else (if bt503.2 = true then (laws_FnStepsAdapt.j0 k l1 bt491.1 bt491.2 bt495.1 bt495.2 bt503.1 bt503.2 bt511.1 bt515.1 (!bt495.2)) else (laws_FnStepsAdapt.j0 k l1 bt491.1 bt491.2 bt495.1 bt495.2 bt503.1 bt503.2 bt511.1 bt515.1 false)))) else (laws_FnStepsAdapt.j0 k l1 bt491.1 bt491.2 bt495.1 bt495.2 bt503.1 bt503.2 bt511.1 bt515.1 true)))) else (laws_FnStepsAdapt.j0 k l1 bt491.1 bt491.2 bt495.1 bt495.2 bt503.1 bt503.2 bt511.1 bt515.1 true))) else (laws_FnStepsAdapt.j0 k l1 bt491.1 bt491.2 bt495.1 bt495.2 bt503.1 bt503.2 bt511.1 bt515.1 true)))) else (laws_FnStepsAdapt.j0 k l1 bt491.1 bt491.2 bt495.1 bt495.2 bt503.1 bt503.2 bt511.1 bt515.1 true))))))))))))))) = some r := h
 clear h
 replace H := Option.bind_eq_some_iff.mp H
 obtain ⟨t490, A30, H⟩ := H
 (try dsimp only at H)
 have A3 := Aside0.mk A30
 clear A30
 by_cases c4 : t490 = true
 ·as_aux_lemma =>
   subst c4
   have H1 := H
   rw [if_pos rfl] at H1
   clear H
   have H := H1
   clear H1
   obtain rfl := Option.some.inj H
   go_enter Try.func4, Try.ntmps4
   go_wp2_with (first | ((with_reducible refine gate_callee (f := 13) rfl ?_); refine goesL_ (some 56) rfl rfl Try.func13 (by kernel_rfl) rfl #[.slice A0 l0.length c0, .slice A1 l1.length c1] rfl (by (try simp only [List.map_toArray, List.map_cons, List.map_nil]); first | done | rfl | (simp only [List.length_drop, List.length_take]; rfl)) ?_; (with_reducible refine (laws_big.calls _ _ l0 _ _ l1 true _ ?side1 ?side2 ?side3 ?side4 A3.out).mono ?_); (case side1 => exact xC HR0.out); (case side2 => exact HC0.out); (case side3 => exact xC HR1.out); (case side4 => exact HC1.out); rintro e w' ⟨rfl, ⟨nd, rfl⟩⟩; refine ⟨_, rfl, ?_⟩))
   go_ret
   exact ⟨by first | rfl | (simp [errW_none, errW_some] <;> rfl) | (simp [*, errW_none, errW_some] <;> rfl), xB HB.out⟩
 replace c4 := Bool.eq_false_iff.mpr c4
 subst c4
 have H1 := H
 rw [if_neg (show ¬ (false = true) by decide)] at H1
 clear H
 have H := H1
 clear H1
 replace H := Option.bind_eq_some_iff.mp H
 obtain ⟨⟨t491, t492⟩, A50, H⟩ := H
 (try dsimp only at H)
 have A5 := Aside0.mk A50
 clear A50
 replace H := Option.bind_eq_some_iff.mp H
 obtain ⟨⟨t495, t496⟩, A60, H⟩ := H
 (try dsimp only at H)
 have A6 := Aside0.mk A60
 clear A60
 replace H := Option.bind_eq_some_iff.mp H
 obtain ⟨⟨t499, t500⟩, A70, H⟩ := H
 (try dsimp only at H)
 have A7 := Aside0.mk A70
 clear A70
 replace H := Option.bind_eq_some_iff.mp H
 obtain ⟨⟨t503, t504⟩, A80, H⟩ := H
 (try dsimp only at H)
 have A8 := Aside0.mk A80
 clear A80
 replace H := Option.bind_eq_some_iff.mp H
 obtain ⟨⟨t507, t508⟩, A90, H⟩ := H
 (try dsimp only at H)
 have A9 := Aside0.mk A90
 clear A90
 replace H := Option.bind_eq_some_iff.mp H
 obtain ⟨⟨t511, t512⟩, A100, H⟩ := H
 (try dsimp only at H)
 have A10 := Aside0.mk A100
 clear A100
 replace H := Option.bind_eq_some_iff.mp H
 obtain ⟨⟨t513, t514⟩, A110, H⟩ := H
 (try dsimp only at H)
 have A11 := Aside0.mk A110
 clear A110
 replace H := Option.bind_eq_some_iff.mp H
 obtain ⟨⟨t515, t516⟩, A120, H⟩ := H
 (try dsimp only at H)
 have A12 := Aside0.mk A120
 clear A120
 replace H := Option.bind_eq_some_iff.mp H
 obtain ⟨⟨t519, t520⟩, A130, H⟩ := H
 (try dsimp only at H)
 have A13 := Aside0.mk A130
 clear A130
 have HC14 := Aside0.mk H
 clear H
 go_enter Try.func4, Try.ntmps4
 go_upto_region 12 with (first | ((with_reducible refine gate_callee (f := 13) rfl ?_); refine goesL_ (some 56) rfl rfl Try.func13 (by kernel_rfl) rfl #[.slice A0 l0.length c0, .slice A1 l1.length c1] rfl (by (try simp only [List.map_toArray, List.map_cons, List.map_nil]); first | done | rfl | (simp only [List.length_drop, List.length_take]; rfl)) ?_; (with_reducible refine (laws_big.calls _ _ l0 _ _ l1 false _ ?side1 ?side2 ?side3 ?side4 A3.out).mono ?_); (case side1 => exact xC HR0.out); (case side2 => exact HC0.out); (case side3 => exact xC HR1.out); (case side4 => exact HC1.out); rintro e w' ⟨rfl, ⟨nd, rfl⟩⟩; refine ⟨_, rfl, ?_⟩) | ((with_reducible refine gate_callee (f := 35) rfl ?_); refine goesL_ (some 59) rfl rfl Try.func35 (by kernel_rfl) rfl #[.slice A0 l0.length c0] rfl (by (try simp only [List.map_toArray, List.map_cons, List.map_nil]); first | done | rfl | (simp only [List.length_drop, List.length_take]; rfl)) ?_; (with_reducible refine (spec_DrawStepBits.calls k _ _ l0 t491 t492 _ ?side1 ?side2 A5.out).mono ?_); (case side1 => exact xC HR0.out); (case side2 => exact HC0.out); rintro e w15 ⟨v493, rfl, ho0, hb⟩; refine ⟨_, rfl, ?_⟩; have n0_ := Aside0.mk (Kd.R_lower ho0 (below_size (xB HB.out))); have n1_ := Aside0.mk (below_step (xB HB.out) hb); clear HB; have HO494 := n0_; have HB := n1_; clear n0_ n1_; (try clear hb); (try clear hb2); (try clear hk); (try clear hi); (try clear ho0); obtain ⟨Ao16, co16, eo16⟩ := Kd.R_slice HO494.out; subst eo16) | ((with_reducible refine gate_callee (f := 36) rfl ?_); refine goesL_ (some 65) rfl rfl Try.func36 (by kernel_rfl) rfl #[.slice Ao16 t491.length co16, .int .i64 t492] rfl (by (try simp only [List.map_toArray, List.map_cons, List.map_nil]); first | done | rfl | (simp only [List.length_drop, List.length_take]; rfl)) ?_; (with_reducible refine (impl_StepBits.calls k _ _ t491 t492 t495 t496 _ ?side1 ?side2 A6.out).mono ?_); (case side1 => exact xC ((Kd.R_reads' HO494.out).2.2)); (case side2 => exact (Kd.R_reads' HO494.out).2.1); rintro e w17 ⟨v497, rfl, ho0, hb⟩; refine ⟨_, rfl, ?_⟩; have n0_ := Aside0.mk (Kd.R_elder' (xR HO494.out) (Kd.R_base ho0) hb); have n1_ := Aside0.mk (Kd.R_lower (Kd.R_new' ho0 (Kd.R_lt (xR HO494.out))) (below_size (xB HB.out))); have n2_ := Aside0.mk (below_step (xB HB.out) hb); clear HO494; clear HB; have HO494 := n0_; have HO498 := n1_; have HB := n2_; clear n0_ n1_ n2_; (try clear hb); (try clear hb2); (try clear hk); (try clear hi); (try clear ho0)) | ((with_reducible refine gate_callee (f := 37) rfl ?_); refine goesL_ (some 71) rfl rfl Try.func37 (by kernel_rfl) rfl #[.slice Ao16 t491.length co16, .int .i64 t492] rfl (by (try simp only [List.map_toArray, List.map_cons, List.map_nil]); first | done | rfl | (simp only [List.length_drop, List.length_take]; rfl)) ?_; (with_reducible refine (spec_StepBits.calls k _ _ t491 t492 t499 t500 _ ?side1 ?side2 A7.out).mono ?_); (case side1 => exact xC ((Kd.R_reads' HO494.out).2.2)); (case side2 => exact (Kd.R_reads' HO494.out).2.1); rintro e w18 ⟨v501, rfl, ho0, hb⟩; refine ⟨_, rfl, ?_⟩; have n0_ := Aside0.mk (Kd.R_elder' (xR HO494.out) (Kd.R_base ho0) hb); have n1_ := Aside0.mk (Kd.R_elder' (xR HO498.out) (Kd.R_base ho0) hb); have n2_ := Aside0.mk (Kd.R_lower (Kd.R_new' (Kd.R_new' ho0 (Kd.R_lt (xR HO494.out))) (Kd.R_lt (xR HO498.out))) (below_size (xB HB.out))); have n3_ := Aside0.mk (below_step (xB HB.out) hb); clear HO494; clear HO498; clear HB; have HO494 := n0_; have HO498 := n1_; have HO502 := n2_; have HB := n3_; clear n0_ n1_ n2_ n3_; (try clear hb); (try clear hb2); (try clear hk); (try clear hi); (try clear ho0)) | ((with_reducible refine gate_callee (f := 38) rfl ?_); refine goesL_ (some 77) rfl rfl Try.func38 (by kernel_rfl) rfl #[.slice Ao16 t491.length co16, .int .i64 t492] rfl (by (try simp only [List.map_toArray, List.map_cons, List.map_nil]); first | done | rfl | (simp only [List.length_drop, List.length_take]; rfl)) ?_; (with_reducible refine (impl_StepGaps.calls k _ _ t491 t492 t503 t504 _ ?side1 ?side2 A8.out).mono ?_); (case side1 => exact xC ((Kd.R_reads' HO494.out).2.2)); (case side2 => exact (Kd.R_reads' HO494.out).2.1); rintro e w19 ⟨v505, rfl, ho0, hb⟩; refine ⟨_, rfl, ?_⟩; have n0_ := Aside0.mk (Kd.R_elder' (xR HO494.out) (Kd.R_base ho0) hb); have n1_ := Aside0.mk (Kd.R_elder' (xR HO498.out) (Kd.R_base ho0) hb); have n2_ := Aside0.mk (Kd.R_elder' (xR HO502.out) (Kd.R_base ho0) hb); have n3_ := Aside0.mk (Kd.R_lower (Kd.R_new' (Kd.R_new' (Kd.R_new' ho0 (Kd.R_lt (xR HO494.out))) (Kd.R_lt (xR HO498.out))) (Kd.R_lt (xR HO502.out))) (below_size (xB HB.out))); have n4_ := Aside0.mk (below_step (xB HB.out) hb); clear HO494; clear HO498; clear HO502; clear HB; have HO494 := n0_; have HO498 := n1_; have HO502 := n2_; have HO506 := n3_; have HB := n4_; clear n0_ n1_ n2_ n3_ n4_; (try clear hb); (try clear hb2); (try clear hk); (try clear hi); (try clear ho0)) | ((with_reducible refine gate_callee (f := 39) rfl ?_); refine goesL_ (some 83) rfl rfl Try.func39 (by kernel_rfl) rfl #[.slice Ao16 t491.length co16, .int .i64 t492] rfl (by (try simp only [List.map_toArray, List.map_cons, List.map_nil]); first | done | rfl | (simp only [List.length_drop, List.length_take]; rfl)) ?_; (with_reducible refine (spec_StepGaps.calls k _ _ t491 t492 t507 t508 _ ?side1 ?side2 A9.out).mono ?_); (case side1 => exact xC ((Kd.R_reads' HO494.out).2.2)); (case side2 => exact (Kd.R_reads' HO494.out).2.1); rintro e w20 ⟨v509, rfl, ho0, hb⟩; refine ⟨_, rfl, ?_⟩; have n0_ := Aside0.mk (Kd.R_elder' (xR HO494.out) (Kd.R_base ho0) hb); have n1_ := Aside0.mk (Kd.R_elder' (xR HO498.out) (Kd.R_base ho0) hb); have n2_ := Aside0.mk (Kd.R_elder' (xR HO502.out) (Kd.R_base ho0) hb); have n3_ := Aside0.mk (Kd.R_elder' (xR HO506.out) (Kd.R_base ho0) hb); have n4_ := Aside0.mk (Kd.R_lower (Kd.R_new' (Kd.R_new' (Kd.R_new' (Kd.R_new' ho0 (Kd.R_lt (xR HO494.out))) (Kd.R_lt (xR HO498.out))) (Kd.R_lt (xR HO502.out))) (Kd.R_lt (xR HO506.out))) (below_size (xB HB.out))); have n5_ := Aside0.mk (below_step (xB HB.out) hb); clear HO494; clear HO498; clear HO502; clear HO506; clear HB; have HO494 := n0_; have HO498 := n1_; have HO502 := n2_; have HO506 := n3_; have HO510 := n4_; have HB := n5_; clear n0_ n1_ n2_ n3_ n4_ n5_; (try clear hb); (try clear hb2); (try clear hk); (try clear hi); (try clear ho0)) | ((with_reducible refine gate_callee (f := 40) rfl ?_); refine goesL_ (some 89) rfl rfl Try.func40 (by kernel_rfl) rfl #[.slice Ao16 t491.length co16, .int .i64 t492] rfl (by (try simp only [List.map_toArray, List.map_cons, List.map_nil]); first | done | rfl | (simp only [List.length_drop, List.length_take]; rfl)) ?_; (with_reducible refine (impl_GreatestGap.calls k _ _ t491 t492 t511 t512 _ ?side1 ?side2 A10.out).mono ?_); (case side1 => exact xC ((Kd.R_reads' HO494.out).2.2)); (case side2 => exact (Kd.R_reads' HO494.out).2.1); rintro e w21 ⟨rfl, hb⟩; refine ⟨_, rfl, ?_⟩; have n0_ := Aside0.mk (Kd.R_below (xR HO494.out) hb); have n1_ := Aside0.mk (Kd.R_below (xR HO498.out) hb); have n2_ := Aside0.mk (Kd.R_below (xR HO502.out) hb); have n3_ := Aside0.mk (Kd.R_below (xR HO506.out) hb); have n4_ := Aside0.mk (Kd.R_below (xR HO510.out) hb); have n5_ := Aside0.mk (below_step (xB HB.out) hb); clear HO494; clear HO498; clear HO502; clear HO506; clear HO510; clear HB; have HO494 := n0_; have HO498 := n1_; have HO502 := n2_; have HO506 := n3_; have HO510 := n4_; have HB := n5_; clear n0_ n1_ n2_ n3_ n4_ n5_; (try clear hb); (try clear hb2); (try clear hk); (try clear hi)) | ((with_reducible refine gate_callee (f := 41) rfl ?_); refine goesL_ (some 95) rfl rfl Try.func41 (by kernel_rfl) rfl #[.slice Ao16 t491.length co16, .int .i64 t492] rfl (by (try simp only [List.map_toArray, List.map_cons, List.map_nil]); first | done | rfl | (simp only [List.length_drop, List.length_take]; rfl)) ?_; (with_reducible refine (spec_GreatestGap.calls k _ _ t491 t492 t513 t514 _ ?side1 ?side2 A11.out).mono ?_); (case side1 => exact xC ((Kd.R_reads' HO494.out).2.2)); (case side2 => exact (Kd.R_reads' HO494.out).2.1); rintro e w22 ⟨rfl, hb⟩; refine ⟨_, rfl, ?_⟩; have n0_ := Aside0.mk (Kd.R_below (xR HO494.out) hb); have n1_ := Aside0.mk (Kd.R_below (xR HO498.out) hb); have n2_ := Aside0.mk (Kd.R_below (xR HO502.out) hb); have n3_ := Aside0.mk (Kd.R_below (xR HO506.out) hb); have n4_ := Aside0.mk (Kd.R_below (xR HO510.out) hb); have n5_ := Aside0.mk (below_step (xB HB.out) hb); clear HO494; clear HO498; clear HO502; clear HO506; clear HO510; clear HB; have HO494 := n0_; have HO498 := n1_; have HO502 := n2_; have HO506 := n3_; have HO510 := n4_; have HB := n5_; clear n0_ n1_ n2_ n3_ n4_ n5_; (try clear hb); (try clear hb2); (try clear hk); (try clear hi)) | ((with_reducible refine gate_callee (f := 42) rfl ?_); refine goesL_ (some 101) rfl rfl Try.func42 (by kernel_rfl) rfl #[.slice Ao16 t491.length co16, .int .i64 t492] rfl (by (try simp only [List.map_toArray, List.map_cons, List.map_nil]); first | done | rfl | (simp only [List.length_drop, List.length_take]; rfl)) ?_; (with_reducible refine (impl_FixedBits.calls k _ _ t491 t492 t515 t516 _ ?side1 ?side2 A12.out).mono ?_); (case side1 => exact xC ((Kd.R_reads' HO494.out).2.2)); (case side2 => exact (Kd.R_reads' HO494.out).2.1); rintro e w23 ⟨v517, rfl, ho0, hb⟩; refine ⟨_, rfl, ?_⟩; have n0_ := Aside0.mk (Kd.R_elder' (xR HO494.out) (Kd.R_base ho0) hb); have n1_ := Aside0.mk (Kd.R_elder' (xR HO498.out) (Kd.R_base ho0) hb); have n2_ := Aside0.mk (Kd.R_elder' (xR HO502.out) (Kd.R_base ho0) hb); have n3_ := Aside0.mk (Kd.R_elder' (xR HO506.out) (Kd.R_base ho0) hb); have n4_ := Aside0.mk (Kd.R_elder' (xR HO510.out) (Kd.R_base ho0) hb); have n5_ := Aside0.mk (Kd.R_lower (Kd.R_new' (Kd.R_new' (Kd.R_new' (Kd.R_new' (Kd.R_new' ho0 (Kd.R_lt (xR HO494.out))) (Kd.R_lt (xR HO498.out))) (Kd.R_lt (xR HO502.out))) (Kd.R_lt (xR HO506.out))) (Kd.R_lt (xR HO510.out))) (below_size (xB HB.out))); have n6_ := Aside0.mk (below_step (xB HB.out) hb); clear HO494; clear HO498; clear HO502; clear HO506; clear HO510; clear HB; have HO494 := n0_; have HO498 := n1_; have HO502 := n2_; have HO506 := n3_; have HO510 := n4_; have HO518 := n5_; have HB := n6_; clear n0_ n1_ n2_ n3_ n4_ n5_ n6_; (try clear hb); (try clear hb2); (try clear hk); (try clear hi); (try clear ho0)) | ((with_reducible refine gate_callee (f := 43) rfl ?_); refine goesL_ (some 107) rfl rfl Try.func43 (by kernel_rfl) rfl #[.slice Ao16 t491.length co16, .int .i64 t492] rfl (by (try simp only [List.map_toArray, List.map_cons, List.map_nil]); first | done | rfl | (simp only [List.length_drop, List.length_take]; rfl)) ?_; (with_reducible refine (spec_FixedBits.calls k _ _ t491 t492 t519 t520 _ ?side1 ?side2 A13.out).mono ?_); (case side1 => exact xC ((Kd.R_reads' HO494.out).2.2)); (case side2 => exact (Kd.R_reads' HO494.out).2.1); rintro e w24 ⟨v521, rfl, ho0, hb⟩; refine ⟨_, rfl, ?_⟩; have n0_ := Aside0.mk (Kd.R_elder' (xR HO494.out) (Kd.R_base ho0) hb); have n1_ := Aside0.mk (Kd.R_elder' (xR HO498.out) (Kd.R_base ho0) hb); have n2_ := Aside0.mk (Kd.R_elder' (xR HO502.out) (Kd.R_base ho0) hb); have n3_ := Aside0.mk (Kd.R_elder' (xR HO506.out) (Kd.R_base ho0) hb); have n4_ := Aside0.mk (Kd.R_elder' (xR HO510.out) (Kd.R_base ho0) hb); have n5_ := Aside0.mk (Kd.R_elder' (xR HO518.out) (Kd.R_base ho0) hb); have n6_ := Aside0.mk (Kd.R_lower (Kd.R_new' (Kd.R_new' (Kd.R_new' (Kd.R_new' (Kd.R_new' (Kd.R_new' ho0 (Kd.R_lt (xR HO494.out))) (Kd.R_lt (xR HO498.out))) (Kd.R_lt (xR HO502.out))) (Kd.R_lt (xR HO506.out))) (Kd.R_lt (xR HO510.out))) (Kd.R_lt (xR HO518.out))) (below_size (xB HB.out))); have n7_ := Aside0.mk (below_step (xB HB.out) hb); clear HO494; clear HO498; clear HO502; clear HO506; clear HO510; clear HO518; clear HB; have HO494 := n0_; have HO498 := n1_; have HO502 := n2_; have HO506 := n3_; have HO510 := n4_; have HO518 := n5_; have HO522 := n6_; have HB := n7_; clear n0_ n1_ n2_ n3_ n4_ n5_ n6_ n7_; (try clear hb); (try clear hb2); (try clear hk); (try clear hi); (try clear ho0)))
 (try simp only [Act.put, List.setIfInBounds_toArray, List.set_cons_zero, List.set_cons_succ])
 go_cut [167] (fun v167 wc => ∃ (kq : Nat) (x167_13 : Bool), v167 = .bool x167_13 ∧ Aside0 (laws_FnStepsAdapt.j0 kq l1 t491 t492 t495 t496 t503 t504 t511 t515 x167_13 = some r) ∧ Aside0 (kq ≤ k) ∧ Aside0 (Kd.R (Kd.int .i64) 3 wc w.heap.size (fun k_ => some k_ ≠ (v497 : Value).ownBlock ∧ some k_ ≠ (v505 : Value).ownBlock ∧ some k_ ≠ (v517 : Value).ownBlock) (.slice Ao16 t491.length co16) t491) ∧ Aside0 (Kd.R (Kd.int .i64) 3 wc w.heap.size (fun k_ => some k_ ≠ ((.slice Ao16 t491.length co16) : Value).ownBlock ∧ some k_ ≠ (v505 : Value).ownBlock ∧ some k_ ≠ (v517 : Value).ownBlock) v497 t495) ∧ Aside0 (Kd.R (Kd.int .i64) 3 wc w.heap.size (fun k_ => some k_ ≠ ((.slice Ao16 t491.length co16) : Value).ownBlock ∧ some k_ ≠ (v497 : Value).ownBlock ∧ some k_ ≠ (v517 : Value).ownBlock) v505 t503) ∧ Aside0 (Kd.R (Kd.int .i64) 3 wc w.heap.size (fun k_ => some k_ ≠ ((.slice Ao16 t491.length co16) : Value).ownBlock ∧ some k_ ≠ (v497 : Value).ownBlock ∧ some k_ ≠ (v505 : Value).ownBlock) v517 t515) ∧ Aside0 (Below w.heap.size w wc))
 case first => as_aux_lemma =>
  have H := HC14.out
  clear HC14
  by_cases c25 : (t496 != t500) = true
  ·as_aux_lemma =>
    rw [if_pos c25] at H
    have c25b0 : (t496 != t500) = true := c25
    (try (have c25b1 : decide (t496 = t500) = false := by simpa using c25))
    (try (have c25b2 : (t496 == t500) = false := by simpa using c25))
    (try (have c25b3 : ¬ (t496 = t500) := by simpa using c25))
    clear c25
    (first | rw [c25b0] | (simp only [i64_w, i32_w]; rw [c25b0]) | skip)
    exact absurd H (by have hr_ := HRT.out; cases k <;> simp [laws_FnStepsAdapt.j0, hr_])
  rw [if_neg c25] at H
  have c25b0 : (t496 != t500) = false := by simpa using c25
  (try (have c25b1 : decide (t496 = t500) = true := by simpa using c25))
  (try (have c25b2 : (t496 == t500) = true := by simpa using c25))
  clear c25
  (first | rw [c25b0] | (simp only [i64_w, i32_w]; rw [c25b0]) | skip)
  replace H := Option.bind_eq_some_iff.mp H
  obtain ⟨t523, A260, H⟩ := H
  (try dsimp only at H)
  have A26 := Aside0.mk A260
  clear A260
  by_cases c27 : t523 = true
  rotate_left
  ·as_aux_lemma =>
    replace c27 := Bool.eq_false_iff.mpr c27
    subst c27
    have H1 := H
    rw [if_neg (show ¬ (false = true) by decide)] at H1
    clear H
    have H := H1
    clear H1
    exact absurd H (by have hr_ := HRT.out; cases k <;> simp [laws_FnStepsAdapt.j0, hr_])
  subst c27
  have H1 := H
  rw [if_pos rfl] at H1
  clear H
  have H := H1
  clear H1
  by_cases c28 : (t504 != t508) = true
  ·as_aux_lemma =>
    rw [if_pos c28] at H
    have c28b0 : (t504 != t508) = true := c28
    (try (have c28b1 : decide (t504 = t508) = false := by simpa using c28))
    (try (have c28b2 : (t504 == t508) = false := by simpa using c28))
    (try (have c28b3 : ¬ (t504 = t508) := by simpa using c28))
    clear c28
    exact absurd H (by have hr_ := HRT.out; cases k <;> simp [laws_FnStepsAdapt.j0, hr_])
  rw [if_neg c28] at H
  have c28b0 : (t504 != t508) = false := by simpa using c28
  (try (have c28b1 : decide (t504 = t508) = true := by simpa using c28))
  (try (have c28b2 : (t504 == t508) = true := by simpa using c28))
  clear c28
  replace H := Option.bind_eq_some_iff.mp H
  obtain ⟨t524, A290, H⟩ := H
  (try dsimp only at H)
  have A29 := Aside0.mk A290
  clear A290
  by_cases c30 : t524 = true
  rotate_left
  ·as_aux_lemma =>
    replace c30 := Bool.eq_false_iff.mpr c30
    subst c30
    have H1 := H
    rw [if_neg (show ¬ (false = true) by decide)] at H1
    clear H
    have H := H1
    clear H1
    exact absurd H (by have hr_ := HRT.out; cases k <;> simp [laws_FnStepsAdapt.j0, hr_])
  subst c30
  have H1 := H
  rw [if_pos rfl] at H1
  clear H
  have H := H1
  clear H1
  by_cases c31 : (t512 != t514) = true
  ·as_aux_lemma =>
    rw [if_pos c31] at H
    have c31b0 : (t512 != t514) = true := c31
    (try (have c31b1 : decide (t512 = t514) = false := by simpa using c31))
    (try (have c31b2 : (t512 == t514) = false := by simpa using c31))
    (try (have c31b3 : ¬ (t512 = t514) := by simpa using c31))
    clear c31
    exact absurd H (by have hr_ := HRT.out; cases k <;> simp [laws_FnStepsAdapt.j0, hr_])
  rw [if_neg c31] at H
  have c31b0 : (t512 != t514) = false := by simpa using c31
  (try (have c31b1 : decide (t512 = t514) = true := by simpa using c31))
  (try (have c31b2 : (t512 == t514) = true := by simpa using c31))
  clear c31
  by_cases c32 : t511 = t513
  rotate_left
  ·rw [if_neg c32] at H
   have c32b0 : (t511 == t513) = false := beq_eq_false_iff_ne.mpr c32
   have c32b1 : (t511 != t513) = true := bne_iff_ne.mpr c32
   exact absurd H (by have hr_ := HRT.out; cases k <;> simp [laws_FnStepsAdapt.j0, hr_])
  rw [if_pos c32] at H
  have c32b0 : (t511 == t513) = true := beq_iff_eq.mpr c32
  have c32b1 : (t511 != t513) = false := bne_eq_false_iff_eq.mpr c32
  clear c32
  by_cases c33 : (t516 != t520) = true
  ·as_aux_lemma =>
    rw [if_pos c33] at H
    have c33b0 : (t516 != t520) = true := c33
    (try (have c33b1 : decide (t516 = t520) = false := by simpa using c33))
    (try (have c33b2 : (t516 == t520) = false := by simpa using c33))
    (try (have c33b3 : ¬ (t516 = t520) := by simpa using c33))
    clear c33
    exact absurd H (by have hr_ := HRT.out; cases k <;> simp [laws_FnStepsAdapt.j0, hr_])
  rw [if_neg c33] at H
  have c33b0 : (t516 != t520) = false := by simpa using c33
  (try (have c33b1 : decide (t516 = t520) = true := by simpa using c33))
  (try (have c33b2 : (t516 == t520) = true := by simpa using c33))
  clear c33
  replace H := Option.bind_eq_some_iff.mp H
  obtain ⟨t525, A340, H⟩ := H
  (try dsimp only at H)
  have A34 := Aside0.mk A340
  clear A340
  by_cases c35 : t525 = true
  rotate_left
  ·as_aux_lemma =>
    replace c35 := Bool.eq_false_iff.mpr c35
    subst c35
    have H1 := H
    rw [if_neg (show ¬ (false = true) by decide)] at H1
    clear H
    have H := H1
    clear H1
    exact absurd H (by have hr_ := HRT.out; cases k <;> simp [laws_FnStepsAdapt.j0, hr_])
  subst c35
  have H1 := H
  rw [if_pos rfl] at H1
  clear H
  have H := H1
  clear H1
  by_cases c36 : (t512 != t504) = true
  ·as_aux_lemma =>
    rw [if_pos c36] at H
    have c36b0 : (t512 != t504) = true := c36
    (try (have c36b1 : decide (t512 = t504) = false := by simpa using c36))
    (try (have c36b2 : (t512 == t504) = false := by simpa using c36))
    (try (have c36b3 : ¬ (t512 = t504) := by simpa using c36))
    clear c36
    exact absurd H (by have hr_ := HRT.out; cases k <;> simp [laws_FnStepsAdapt.j0, hr_])
  as_aux_lemma =>
   rw [if_neg c36] at H
   have c36b0 : (t512 != t504) = false := by simpa using c36
   (try (have c36b1 : decide (t512 = t504) = true := by simpa using c36))
   (try (have c36b2 : (t512 == t504) = true := by simpa using c36))
   clear c36
   by_cases c37 : (t516 != t496) = true
   ·rw [if_pos c37] at H
    have c37b0 : (t516 != t496) = true := c37
    (try (have c37b1 : decide (t516 = t496) = false := by simpa using c37))
    (try (have c37b2 : (t516 == t496) = false := by simpa using c37))
    (try (have c37b3 : ¬ (t516 = t496) := by simpa using c37))
    clear c37
    exact absurd H (by have hr_ := HRT.out; cases k <;> simp [laws_FnStepsAdapt.j0, hr_])
   rw [if_neg c37] at H
   have c37b0 : (t516 != t496) = false := by simpa using c37
   (try (have c37b1 : decide (t516 = t496) = true := by simpa using c37))
   (try (have c37b2 : (t516 == t496) = true := by simpa using c37))
   clear c37
   by_cases c38 : t504 = true
   ·subst c38
    have H1 := H
    rw [if_pos rfl] at H1
    clear H
    have H := H1
    clear H1
    have H' := Aside0.mk H
    clear H
    obtain ⟨Ao39, co39, eo39⟩ := Kd.R_slice HO498.out
    subst eo39
    obtain ⟨Ao40, co40, eo40⟩ := Kd.R_slice HO502.out
    subst eo40
    go_wp2_with (first | (go_at_call 44; (with_reducible refine (laws_uSame.calls k _ _ t495 _ _ t499 true _ ?side1 ?side2 ?side3 ?side4 A26.out).mono ?_); (case side1 => exact xC ((Kd.R_reads' HO498.out).2.2)); (case side2 => exact (Kd.R_reads' HO498.out).2.1); (case side3 => exact xC ((Kd.R_reads' HO502.out).2.2)); (case side4 => exact (Kd.R_reads' HO502.out).2.1); rintro e w' ⟨rfl, ⟨nd, rfl⟩⟩; obtain ⟨Ao41, co41, eo41⟩ := Kd.R_slice HO506.out; subst eo41; obtain ⟨Ao42, co42, eo42⟩ := Kd.R_slice HO510.out; subst eo42) | (go_at_call 44; (with_reducible refine (laws_uSame.calls k _ _ t503 _ _ t507 true _ ?side1 ?side2 ?side3 ?side4 A29.out).mono ?_); (case side1 => exact xC ((Kd.R_reads' HO506.out).2.2)); (case side2 => exact (Kd.R_reads' HO506.out).2.1); (case side3 => exact xC ((Kd.R_reads' HO510.out).2.2)); (case side4 => exact (Kd.R_reads' HO510.out).2.1); rintro e w' ⟨rfl, ⟨nd, rfl⟩⟩; obtain ⟨Ao43, co43, eo43⟩ := Kd.R_slice HO518.out; subst eo43; obtain ⟨Ao44, co44, eo44⟩ := Kd.R_slice HO522.out; subst eo44) | (go_at_call 44; (with_reducible refine (laws_uSame.calls k _ _ t515 _ _ t519 true _ ?side1 ?side2 ?side3 ?side4 A34.out).mono ?_); (case side1 => exact xC ((Kd.R_reads' HO518.out).2.2)); (case side2 => exact (Kd.R_reads' HO518.out).2.1); (case side3 => exact xC ((Kd.R_reads' HO522.out).2.2)); (case side4 => exact (Kd.R_reads' HO522.out).2.1); rintro e w' ⟨rfl, ⟨nd, rfl⟩⟩))
    go_meet
    case rel => exact ⟨_, (!t496), (by first | rfl | (simp; done) | (simp [*]; done)), H', ⟨by first | omega | exact Nat.le_refl _⟩, ⟨by (with_reducible repeat (first | apply Kd.R_alloc | apply Kd.R_drewN | apply Kd.R_drew)); exact Kd.R_mono HO494.out (fun _ hk => ⟨hk.1.1.1.1.1.2, ⟨hk.1.1.1.2, hk.1.2⟩⟩)⟩, ⟨by (with_reducible repeat (first | apply Kd.R_alloc | apply Kd.R_drewN | apply Kd.R_drew)); exact Kd.R_mono HO498.out (fun _ hk => ⟨hk.1.1.1.1.1.2, ⟨hk.1.1.1.2, hk.1.2⟩⟩)⟩, ⟨by (with_reducible repeat (first | apply Kd.R_alloc | apply Kd.R_drewN | apply Kd.R_drew)); exact Kd.R_mono HO506.out (fun _ hk => ⟨hk.1.1.1.1.1.2, ⟨hk.1.1.1.1.2, hk.1.2⟩⟩)⟩, ⟨by (with_reducible repeat (first | apply Kd.R_alloc | apply Kd.R_drewN | apply Kd.R_drew)); exact Kd.R_mono HO518.out (fun _ hk => ⟨hk.1.1.1.1.1.2, ⟨hk.1.1.1.1.2, hk.1.1.2⟩⟩)⟩, ⟨xB HB.out⟩⟩
   replace c38 := Bool.eq_false_iff.mpr c38
   subst c38
   have H1 := H
   rw [if_neg (show ¬ (false = true) by decide)] at H1
   clear H
   have H := H1
   clear H1
   have H' := Aside0.mk H
   clear H
   obtain ⟨Ao45, co45, eo45⟩ := Kd.R_slice HO498.out
   subst eo45
   obtain ⟨Ao46, co46, eo46⟩ := Kd.R_slice HO502.out
   subst eo46
   go_wp2_with (first | (go_at_call 44; (with_reducible refine (laws_uSame.calls k _ _ t495 _ _ t499 true _ ?side1 ?side2 ?side3 ?side4 A26.out).mono ?_); (case side1 => exact xC ((Kd.R_reads' HO498.out).2.2)); (case side2 => exact (Kd.R_reads' HO498.out).2.1); (case side3 => exact xC ((Kd.R_reads' HO502.out).2.2)); (case side4 => exact (Kd.R_reads' HO502.out).2.1); rintro e w' ⟨rfl, ⟨nd, rfl⟩⟩; obtain ⟨Ao47, co47, eo47⟩ := Kd.R_slice HO506.out; subst eo47; obtain ⟨Ao48, co48, eo48⟩ := Kd.R_slice HO510.out; subst eo48) | (go_at_call 44; (with_reducible refine (laws_uSame.calls k _ _ t503 _ _ t507 true _ ?side1 ?side2 ?side3 ?side4 A29.out).mono ?_); (case side1 => exact xC ((Kd.R_reads' HO506.out).2.2)); (case side2 => exact (Kd.R_reads' HO506.out).2.1); (case side3 => exact xC ((Kd.R_reads' HO510.out).2.2)); (case side4 => exact (Kd.R_reads' HO510.out).2.1); rintro e w' ⟨rfl, ⟨nd, rfl⟩⟩; obtain ⟨Ao49, co49, eo49⟩ := Kd.R_slice HO518.out; subst eo49; obtain ⟨Ao50, co50, eo50⟩ := Kd.R_slice HO522.out; subst eo50) | (go_at_call 44; (with_reducible refine (laws_uSame.calls k _ _ t515 _ _ t519 true _ ?side1 ?side2 ?side3 ?side4 A34.out).mono ?_); (case side1 => exact xC ((Kd.R_reads' HO518.out).2.2)); (case side2 => exact (Kd.R_reads' HO518.out).2.1); (case side3 => exact xC ((Kd.R_reads' HO522.out).2.2)); (case side4 => exact (Kd.R_reads' HO522.out).2.1); rintro e w' ⟨rfl, ⟨nd, rfl⟩⟩))
   go_meet
   case rel => exact ⟨_, (false), (by first | rfl | (simp; done) | (simp [*]; done)), H', ⟨by first | omega | exact Nat.le_refl _⟩, ⟨by (with_reducible repeat (first | apply Kd.R_alloc | apply Kd.R_drewN | apply Kd.R_drew)); exact Kd.R_mono HO494.out (fun _ hk => ⟨hk.1.1.1.1.1.2, ⟨hk.1.1.1.2, hk.1.2⟩⟩)⟩, ⟨by (with_reducible repeat (first | apply Kd.R_alloc | apply Kd.R_drewN | apply Kd.R_drew)); exact Kd.R_mono HO498.out (fun _ hk => ⟨hk.1.1.1.1.1.2, ⟨hk.1.1.1.2, hk.1.2⟩⟩)⟩, ⟨by (with_reducible repeat (first | apply Kd.R_alloc | apply Kd.R_drewN | apply Kd.R_drew)); exact Kd.R_mono HO506.out (fun _ hk => ⟨hk.1.1.1.1.1.2, ⟨hk.1.1.1.1.2, hk.1.2⟩⟩)⟩, ⟨by (with_reducible repeat (first | apply Kd.R_alloc | apply Kd.R_drewN | apply Kd.R_drew)); exact Kd.R_mono HO518.out (fun _ hk => ⟨hk.1.1.1.1.1.2, ⟨hk.1.1.1.1.2, hk.1.1.2⟩⟩)⟩, ⟨xB HB.out⟩⟩
 case rest => as_aux_lemma =>
  clear HC14
  try clear c1
  try clear c4
  obtain ⟨kq, x167_13, rfl, HA, HJ13, HO_5, HO_7, HO_11, HO_19, HB⟩ := hcut
  cases kq with
  | zero => exact absurd HA.out (by simp [laws_FnStepsAdapt.j0])
  | succ kj13 =>
   have H := HA.out
   clear HA
   simp only [laws_FnStepsAdapt.j0] at H
   by_cases c51 : x167_13 = true
   ·as_aux_lemma =>
     subst c51
     have H1 := H
     rw [if_pos rfl] at H1
     clear H
     have H := H1
     clear H1
     exact absurd ((Option.some.inj H).trans HRT.out) (by decide)
   replace c51 := Bool.eq_false_iff.mpr c51
   subst c51
   have H1 := H
   rw [if_neg (show ¬ (false = true) by decide)] at H1
   clear H
   have H := H1
   clear H1
   have HC52 := Aside0.mk H
   clear H
   go_upto_if 168 with (fail)
   go_cut [] (fun wc => ∃ (kq : Nat), Aside0 (laws_FnStepsAdapt.j4 kq l1 = some r) ∧ Aside0 (kq ≤ kj13) ∧ Aside0 (Below w.heap.size w wc))
   case first => as_aux_lemma =>
    have H := HC52.out
    clear HC52
    by_cases c53 : t496 = true
    rotate_left
    ·as_aux_lemma =>
      replace c53 := Bool.eq_false_iff.mpr c53
      subst c53
      have H1 := H
      rw [if_neg (show ¬ (false = true) by decide)] at H1
      clear H
      have H := H1
      clear H1
      have H' := Aside0.mk H
      clear H
      go_wp2
      go_meet
      case rel => exact ⟨_, H', ⟨by have := HJ13.out; first | omega | exact Nat.le_refl _⟩, ⟨xB HB.out⟩⟩
    subst c53
    have H1 := H
    rw [if_pos rfl] at H1
    clear H
    have H := H1
    clear H1
    replace H := Option.bind_eq_some_iff.mp H
    obtain ⟨⟨t526, t527⟩, A540, H⟩ := H
    (try dsimp only at H)
    have A54 := Aside0.mk A540
    clear A540
    by_cases c55 : (t495.length : Int) = (t491.length : Int)
    rotate_left
    ·as_aux_lemma =>
      rw [if_neg c55] at H
      have c55b0 : ((t495.length : Int) == (t491.length : Int)) = false := beq_eq_false_iff_ne.mpr c55
      have c55b1 : ((t495.length : Int) != (t491.length : Int)) = true := bne_iff_ne.mpr c55
      have c55b2 : (t495.length == t491.length) = false := by first | simpa using c55 | (simp at c55 ⊢; omega)
      (first | rw [c55b0] | (simp only [i64_w, i32_w]; rw [c55b0]) | skip)
      exact absurd ((Option.some.inj H).trans HRT.out) (by decide)
    rw [if_pos c55] at H
    have c55b0 : ((t495.length : Int) == (t491.length : Int)) = true := beq_iff_eq.mpr c55
    have c55b1 : ((t495.length : Int) != (t491.length : Int)) = false := bne_eq_false_iff_eq.mpr c55
    have c55b2 : (t495.length == t491.length) = true := by first | simpa using c55 | (simp at c55 ⊢; omega)
    clear c55
    (first | rw [c55b0] | (simp only [i64_w, i32_w]; rw [c55b0]) | skip)
    have HC56 := Aside0.mk H
    clear H
    obtain ⟨Ao57, co57, eo57⟩ := Kd.R_slice HO_7.out
    subst eo57
    go_upto_if 180 with (first | ((with_reducible refine gate_callee (f := 45) rfl ?_); refine goesL_ (some 172) rfl rfl Try.func45 (by kernel_rfl) rfl #[.slice Ao57 t495.length co57, .int .i64 t492] rfl (by (try simp only [List.map_toArray, List.map_cons, List.map_nil]); first | done | rfl | (simp only [List.length_drop, List.length_take]; rfl)) ?_; (with_reducible refine (impl_StepValues.calls kj13 _ _ t495 t492 t526 t527 _ ?side1 ?side2 A54.out).mono ?_); (case side1 => exact xC ((Kd.R_reads' HO_7.out).2.2)); (case side2 => exact (Kd.R_reads' HO_7.out).2.1); rintro e w58 ⟨v528, rfl, ho0, hb⟩; refine ⟨_, rfl, ?_⟩; have n0_ := Aside0.mk (Kd.R_elder' (xR HO_5.out) (Kd.R_base ho0) hb); have n1_ := Aside0.mk (Kd.R_elder' (xR HO_7.out) (Kd.R_base ho0) hb); have n2_ := Aside0.mk (Kd.R_elder' (xR HO_11.out) (Kd.R_base ho0) hb); have n3_ := Aside0.mk (Kd.R_elder' (xR HO_19.out) (Kd.R_base ho0) hb); have n4_ := Aside0.mk (Kd.R_lower (Kd.R_new' (Kd.R_new' (Kd.R_new' (Kd.R_new' ho0 (Kd.R_lt (xR HO_5.out))) (Kd.R_lt (xR HO_7.out))) (Kd.R_lt (xR HO_11.out))) (Kd.R_lt (xR HO_19.out))) (below_size (xB HB.out))); have n5_ := Aside0.mk (below_step (xB HB.out) hb); clear HO_5; clear HO_7; clear HO_11; clear HO_19; clear HB; have HO_5 := n0_; have HO_7 := n1_; have HO_11 := n2_; have HO_19 := n3_; have HO529 := n4_; have HB := n5_; clear n0_ n1_ n2_ n3_ n4_ n5_; (try clear hb); (try clear hb2); (try clear hk); (try clear hi); (try clear ho0)))
    (try simp only [Act.put, List.setIfInBounds_toArray, List.set_cons_zero, List.set_cons_succ])
    go_cut [] (fun wc => ∃ (kq : Nat), Aside0 (laws_FnStepsAdapt.j2 kq l1 t491 t492 t515 = some r) ∧ Aside0 (kq ≤ kj13) ∧ Aside0 (Kd.R (Kd.int .i64) 3 wc w.heap.size (fun k_ => some k_ ≠ (v517 : Value).ownBlock) (.slice Ao16 t491.length co16) t491) ∧ Aside0 (Kd.R (Kd.int .i64) 3 wc w.heap.size (fun k_ => some k_ ≠ ((.slice Ao16 t491.length co16) : Value).ownBlock) v517 t515) ∧ Aside0 (Below w.heap.size w wc))
    case first => as_aux_lemma =>
     have H := HC56.out
     clear HC56
     by_cases c59 : t527 = true
     rotate_left
     ·as_aux_lemma =>
       replace c59 := Bool.eq_false_iff.mpr c59
       subst c59
       have H1 := H
       rw [if_neg (show ¬ (false = true) by decide)] at H1
       clear H
       have H := H1
       clear H1
       have H' := Aside0.mk H
       clear H
       go_wp2
       go_meet
       case rel => exact ⟨_, H', ⟨by have := HJ13.out; first | omega | exact Nat.le_refl _⟩, ⟨by (with_reducible repeat (first | apply Kd.R_alloc | apply Kd.R_drewN | apply Kd.R_drew)); exact Kd.R_mono HO_5.out (fun _ hk => hk.1.2.2)⟩, ⟨by (with_reducible repeat (first | apply Kd.R_alloc | apply Kd.R_drewN | apply Kd.R_drew)); exact Kd.R_mono HO_19.out (fun _ hk => hk.1.1)⟩, ⟨xB HB.out⟩⟩
     subst c59
     have H1 := H
     rw [if_pos rfl] at H1
     clear H
     have H := H1
     clear H1
     have H' := Aside0.mk H
     clear H
     go_wp2
     go_loopg [25, 183] kj13 (fun kq v25 v183 w' => ∃ (x25_2 : Int) (x183_2 : Int), v25 = .int .i64 x25_2 ∧ v183 = .int .i64 x183_2 ∧ Aside0 (laws_FnStepsAdapt.l0 kq l1 t491 t492 t495 t503 t504 t511 t515 t526 x25_2 t491 (t491.length : Int) x183_2 = some r) ∧ Aside0 (kq ≤ kj13) ∧ Aside0 (Kd.R (Kd.int .i64) 3 w' w.heap.size (fun k_ => some k_ ≠ ((.slice Ao57 t495.length co57) : Value).ownBlock ∧ some k_ ≠ (v505 : Value).ownBlock ∧ some k_ ≠ (v517 : Value).ownBlock ∧ some k_ ≠ (v528 : Value).ownBlock) (.slice Ao16 t491.length co16) t491) ∧ Aside0 (Kd.R (Kd.int .i64) 3 w' w.heap.size (fun k_ => some k_ ≠ ((.slice Ao16 t491.length co16) : Value).ownBlock ∧ some k_ ≠ (v505 : Value).ownBlock ∧ some k_ ≠ (v517 : Value).ownBlock ∧ some k_ ≠ (v528 : Value).ownBlock ∧ some k_ ≠ ((.slice Ao16 t491.length co16) : Value).ownBlock) (.slice Ao57 t495.length co57) t495) ∧ Aside0 (Kd.R (Kd.int .i64) 3 w' w.heap.size (fun k_ => some k_ ≠ ((.slice Ao16 t491.length co16) : Value).ownBlock ∧ some k_ ≠ ((.slice Ao57 t495.length co57) : Value).ownBlock ∧ some k_ ≠ (v517 : Value).ownBlock ∧ some k_ ≠ (v528 : Value).ownBlock ∧ some k_ ≠ ((.slice Ao16 t491.length co16) : Value).ownBlock) v505 t503) ∧ Aside0 (Kd.R (Kd.int .i64) 3 w' w.heap.size (fun k_ => some k_ ≠ ((.slice Ao16 t491.length co16) : Value).ownBlock ∧ some k_ ≠ ((.slice Ao57 t495.length co57) : Value).ownBlock ∧ some k_ ≠ (v505 : Value).ownBlock ∧ some k_ ≠ (v528 : Value).ownBlock ∧ some k_ ≠ ((.slice Ao16 t491.length co16) : Value).ownBlock) v517 t515) ∧ Aside0 (Kd.R (Kd.int .i64) 3 w' w.heap.size (fun k_ => some k_ ≠ ((.slice Ao16 t491.length co16) : Value).ownBlock ∧ some k_ ≠ ((.slice Ao57 t495.length co57) : Value).ownBlock ∧ some k_ ≠ (v505 : Value).ownBlock ∧ some k_ ≠ (v517 : Value).ownBlock ∧ some k_ ≠ ((.slice Ao16 t491.length co16) : Value).ownBlock) v528 t526) ∧ Aside0 (Kd.R (Kd.int .i64) 3 w' w.heap.size (fun k_ => some k_ ≠ ((.slice Ao57 t495.length co57) : Value).ownBlock ∧ some k_ ≠ (v505 : Value).ownBlock ∧ some k_ ≠ (v517 : Value).ownBlock ∧ some k_ ≠ (v528 : Value).ownBlock) (.slice Ao16 t491.length co16) t491) ∧ Aside0 (Below w.heap.size w w'))
     case atStart => exact ⟨(0), (0), (by first | rfl | (simp; done) | (simp [*]; done)), (by first | rfl | (simp; done) | (simp [*]; done)), H', ⟨Nat.le_refl _⟩, ⟨by (with_reducible repeat (first | apply Kd.R_alloc | apply Kd.R_drewN | apply Kd.R_drew)); exact Kd.R_mono HO_5.out (fun _ hk => ⟨hk.1.1, ⟨hk.1.2.1, ⟨hk.1.2.2, hk.2⟩⟩⟩)⟩, ⟨by (with_reducible repeat (first | apply Kd.R_alloc | apply Kd.R_drewN | apply Kd.R_drew)); exact Kd.R_mono HO_7.out (fun _ hk => ⟨hk.1.1, ⟨hk.1.2.1, ⟨hk.1.2.2, ⟨hk.2, hk.1.1⟩⟩⟩⟩)⟩, ⟨by (with_reducible repeat (first | apply Kd.R_alloc | apply Kd.R_drewN | apply Kd.R_drew)); exact Kd.R_mono HO_11.out (fun _ hk => ⟨hk.1.1, ⟨hk.1.2.1, ⟨hk.1.2.2, ⟨hk.2, hk.1.1⟩⟩⟩⟩)⟩, ⟨by (with_reducible repeat (first | apply Kd.R_alloc | apply Kd.R_drewN | apply Kd.R_drew)); exact Kd.R_mono HO_19.out (fun _ hk => ⟨hk.1.1, ⟨hk.1.2.1, ⟨hk.1.2.2, ⟨hk.2, hk.1.1⟩⟩⟩⟩)⟩, ⟨by (with_reducible repeat (first | apply Kd.R_alloc | apply Kd.R_drewN | apply Kd.R_drew)); exact Kd.R_mono HO529.out (fun _ hk => ⟨hk.1.1.1.2, ⟨hk.1.1.2, ⟨hk.1.2, ⟨hk.2, hk.1.1.1.2⟩⟩⟩⟩)⟩, ⟨by (with_reducible repeat (first | apply Kd.R_alloc | apply Kd.R_drewN | apply Kd.R_drew)); exact Kd.R_mono HO_5.out (fun _ hk => ⟨hk.1.1, ⟨hk.1.2.1, ⟨hk.1.2.2, hk.2⟩⟩⟩)⟩, ⟨xB HB.out⟩⟩
     case round =>
      clear H'
      try clear c51
      try clear c53
      try clear c55b0
      try clear c55b1
      try clear c55b2
      try clear c59
      obtain ⟨x25_2, x183_2, rfl, rfl, HA, HK2, HO_5, HO_7, HO_11, HO_19, HO_23, HO_181, HB⟩ := hrel
      cases gk with
      | zero => exact absurd HA.out (by simp [laws_FnStepsAdapt.l0])
      | succ k2 =>
       have H := HA.out
       clear HA
       simp only [laws_FnStepsAdapt.l0] at H
       by_cases c60 : x183_2 < (t491.length : Int)
       rotate_left
       ·as_aux_lemma =>
         rw [if_neg c60] at H
         have c60b0 : decide (x183_2 < (t491.length : Int)) = false := decide_eq_false c60
         clear c60
         (first | rw [c60b0] | (simp only [i64_w, i32_w]; rw [c60b0]) | skip)
         have H' := Aside0.mk H
         clear H
         go_wp2
         go_meet
         case rel => exact ⟨_, H', ⟨by have := HJ13.out; have := HK2.out; first | omega | exact Nat.le_refl _⟩, ⟨by (with_reducible repeat (first | apply Kd.R_alloc | apply Kd.R_drewN | apply Kd.R_drew)); exact Kd.R_mono HO_5.out (fun _ hk => hk.2.2.1)⟩, ⟨by (with_reducible repeat (first | apply Kd.R_alloc | apply Kd.R_drewN | apply Kd.R_drew)); exact Kd.R_mono HO_19.out (fun _ hk => hk.1)⟩, ⟨xB HB.out⟩⟩
       rw [if_pos c60] at H
       have c60b0 : decide (x183_2 < (t491.length : Int)) = true := decide_eq_true c60
       clear c60
       (first | rw [c60b0] | (simp only [i64_w, i32_w]; rw [c60b0]) | skip)
       by_cases c61 : 0 ≤ x183_2
       rotate_left
       ·rw [if_neg c61] at H
        exact absurd H (by simp)
       rw [if_pos c61] at H
       have c61b0 : decide (0 ≤ x183_2) = true := decide_eq_true c61
       clear c61
       by_cases c62 : x183_2 < (t491.length : Int)
       rotate_left
       ·rw [if_neg c62] at H
        exact absurd H (by simp)
       rw [if_pos c62] at H
       have c62b0 : decide (x183_2 < (t491.length : Int)) = true := decide_eq_true c62
       clear c62
       by_cases c63 : x183_2 < (t495.length : Int)
       rotate_left
       ·rw [if_neg c63] at H
        exact absurd H (by simp)
       rw [if_pos c63] at H
       have c63b0 : decide (x183_2 < (t495.length : Int)) = true := decide_eq_true c63
       clear c63
       by_cases c64 : (((rd t495 x183_2) == 1) != (decide ((rd t491 x183_2) ≥ x25_2))) = true
       ·as_aux_lemma =>
         rw [if_pos c64] at H
         have c64b0 : (((rd t495 x183_2) == 1) != (decide ((rd t491 x183_2) ≥ x25_2))) = true := c64
         (try (have c64b1 : decide (((rd t495 x183_2) == 1) = (decide ((rd t491 x183_2) ≥ x25_2))) = false := by simpa using c64))
         (try (have c64b2 : (((rd t495 x183_2) == 1) == (decide ((rd t491 x183_2) ≥ x25_2))) = false := by simpa using c64))
         (try (have c64b3 : ¬ (((rd t495 x183_2) == 1) = (decide ((rd t491 x183_2) ≥ x25_2))) := by simpa using c64))
         clear c64
         exact absurd ((Option.some.inj H).trans HRT.out) (by decide)
       rw [if_neg c64] at H
       have c64b0 : (((rd t495 x183_2) == 1) != (decide ((rd t491 x183_2) ≥ x25_2))) = false := by simpa using c64
       (try (have c64b1 : decide (((rd t495 x183_2) == 1) = (decide ((rd t491 x183_2) ≥ x25_2))) = true := by simpa using c64))
       (try (have c64b2 : (((rd t495 x183_2) == 1) == (decide ((rd t491 x183_2) ≥ x25_2))) = true := by simpa using c64))
       clear c64
       by_cases c65 : t504 = true
       rotate_left
       ·as_aux_lemma =>
          replace c65 := Bool.eq_false_iff.mpr c65
          subst c65
          have H1 := H
          rw [if_neg (show ¬ (false = true) by decide)] at H1
          clear H
          have H := H1
          clear H1
          by_cases c74 : x183_2 < (t526.length : Int)
          rotate_left
          ·rw [if_neg c74] at H
           exact absurd H (by simp)
          rw [if_pos c74] at H
          have c74b0 : decide (x183_2 < (t526.length : Int)) = true := decide_eq_true c74
          clear c74
          have H' := Aside0.mk H
          clear H
          have p530 : 0 ≤ (x183_2 : Int) := of_decide_eq_true (by first | (with_reducible assumption) | assumption)
          have q530 : x183_2 < (t491.length : Int) := of_decide_eq_true (by first | (with_reducible assumption) | assumption)
          obtain ⟨ad530, e530, hx530_0⟩ := Kd.at_int (Kd.R_reads' HO_181.out).2.2 x183_2 p530 q530
          cases e530
          replace p530 := eq_true p530
          replace q530 := eq_true q530
          try go_wp2
          have n0_ := Aside0.mk (Kd.R_drew HO_5.out)
          have n1_ := Aside0.mk (Kd.R_drew HO_7.out)
          have n2_ := Aside0.mk (Kd.R_drew HO_11.out)
          have n3_ := Aside0.mk (Kd.R_drew HO_19.out)
          have n4_ := Aside0.mk (Kd.R_drew HO_23.out)
          have n5_ := Aside0.mk (Kd.R_drew HO_181.out)
          have n6_ := Aside0.mk (below_drew1 HB.out)
          clear HO_5
          clear HO_7
          clear HO_11
          clear HO_19
          clear HO_23
          clear HO_181
          clear HB
          have HO_5 := n0_
          have HO_7 := n1_
          have HO_11 := n2_
          have HO_19 := n3_
          have HO_23 := n4_
          have HO_181 := n5_
          have HB := n6_
          clear n0_ n1_ n2_ n3_ n4_ n5_ n6_
          have p531 : 0 ≤ (x183_2 : Int) := of_decide_eq_true (by first | (with_reducible assumption) | assumption)
          have q531 : x183_2 < (t495.length : Int) := of_decide_eq_true (by first | (with_reducible assumption) | assumption)
          obtain ⟨ad531, e531, hx531_0⟩ := Kd.at_int (Kd.R_reads' HO_7.out).2.2 x183_2 p531 q531
          cases e531
          replace p531 := eq_true p531
          replace q531 := eq_true q531
          refine start_ (n := 37) (S := fun w' => w'.cell? (ad531.add (x183_2).toNat) = some (.int .i64 (rd t495 x183_2))) (ds := []) x10a0 (by kernel_rfl) rfl rfl (hx531_0) (fun hHeld => ?_); refine with_tabW laws_FnStepsAdapt.tab23 laws_FnStepsAdapt.bits23 (fun HT_ HW_ => ?_)
          generalize wr.drew = w75 at HO_5 HO_7 HO_11 HO_19 HO_23 HO_181 HB hx531_0 hHeld ⊢
          refine pure_ (i := 0) (N := some 188) (v := ?_) (a' := ?_) x10a1 rfl rfl (any_of HT_.out (by kernel_rfl)) (fun _ _ _ h => h) (Or.inl ⟨by rfl, ?_⟩) ?_ ?_; rotate_left; (intro w'; go_simp; with_reducible rfl); rotate_left; exact xE
          refine pure_ (i := 1) (N := some 189) (v := ?_) (a' := ?_) x10a2 rfl rfl (any_of HT_.out (by kernel_rfl)) (fun _ _ _ h => h) (Or.inl ⟨by rfl, ?_⟩) ?_ ?_; rotate_left; (intro w'; go_simp; with_reducible rfl); rotate_left; exact xE
          refine pure_ (i := 2) (N := some 190) (v := ?_) (a' := ?_) x10a3 rfl rfl (any_of HT_.out (by kernel_rfl)) (fun _ _ _ h => h) (Or.inl ⟨by rfl, ?_⟩) ?_ ?_; rotate_left; (intro w'; go_simp; with_reducible rfl); rotate_left; exact xE
          refine pure_ (i := 5) (N := some 193) (v := ?_) (a' := ?_) x10a4 rfl rfl (any_of HT_.out (by kernel_rfl)) (fun _ _ _ h => h) (Or.inl ⟨by rfl, ?_⟩) ?_ ?_; rotate_left; (intro w'; go_simp; with_reducible rfl); rotate_left; exact xE
          refine pure_ (i := 6) (N := some 194) (v := ?_) (a' := ?_) x10a5 rfl rfl (any_of HT_.out (by kernel_rfl)) (fun _ _ _ h => h) (Or.inl ⟨by rfl, ?_⟩) ?_ ?_; rotate_left; (intro w'; go_simp; with_reducible rfl); rotate_left; exact xE
          refine pure_ (i := 7) (N := some 195) (v := ?_) (a' := ?_) x10a6 rfl rfl (any_of HT_.out (by kernel_rfl)) (fun _ _ _ h => h) (Or.inl ⟨by rfl, ?_⟩) ?_ ?_; rotate_left; (intro w'; go_simp; with_reducible rfl); rotate_left; exact xE
          refine take_ (i := 3) (N := some 191) (v := ?_) (a' := ?_) x10a7 rfl rfl (take_ofW HT_.out HW_.out (by kernel_rfl)) (fun _ _ _ h => h) (Or.inl ⟨by rfl, ?_⟩) hHeld ?_ ?_
          rotate_left
          ·intro w' s0
           go_simp
           with_reducible rfl
          rotate_left
          ·exact xE
          refine pure_ (i := 4) (N := some 192) (v := ?_) (a' := ?_) x10a8 rfl rfl (any_of HT_.out (by kernel_rfl)) (fun _ _ _ h => h) (Or.inl ⟨by rfl, ?_⟩) ?_ ?_; rotate_left; (intro w'; go_simp; with_reducible rfl); rotate_left; exact xE
          refine pure_ (i := 8) (N := some 196) (v := ?_) (a' := ?_) x10a9 rfl rfl (any_of HT_.out (by kernel_rfl)) (fun _ _ _ h => h) (Or.inl ⟨by rfl, ?_⟩) ?_ ?_; rotate_left; (intro w'; go_simp; with_reducible rfl); rotate_left; exact xE
          refine pure_ (i := 9) (N := some 197) (v := ?_) (a' := ?_) x10a10 rfl rfl (any_of HT_.out (by kernel_rfl)) (fun _ _ _ h => h) (Or.inl ⟨by rfl, ?_⟩) ?_ ?_; rotate_left; (intro w'; go_simp; with_reducible rfl); rotate_left; exact xE
          refine pure_ (i := 10) (N := some 198) (v := ?_) (a' := ?_) x10a11 rfl rfl (any_of HT_.out (by kernel_rfl)) (fun _ _ _ h => h) (Or.inl ⟨by rfl, ?_⟩) ?_ ?_; rotate_left; (intro w'; go_simp; with_reducible rfl); rotate_left; exact xE
          refine pure_ (i := 11) (N := some 199) (v := ?_) (a' := ?_) x10a12 rfl rfl (any_of HT_.out (by kernel_rfl)) (fun _ _ _ h => h) (Or.inl ⟨by rfl, ?_⟩) ?_ ?_; rotate_left; (intro w'; go_simp; with_reducible rfl); rotate_left; exact xE
          refine pure_ (i := 12) (N := some 200) (v := undef) (a' := ?_) x10a13 rfl rfl (any_of HT_.out (by kernel_rfl)) (fun _ _ _ h => h) (Or.inr ⟨by rfl, rfl⟩) ?_ ?_
          rotate_left
          ·exact xE
          refine pure_ (i := 13) (N := some 201) (v := undef) (a' := ?_) x10a14 rfl rfl (any_of HT_.out (by kernel_rfl)) (fun _ _ _ h => h) (Or.inr ⟨by rfl, rfl⟩) ?_ ?_
          rotate_left
          ·exact xE
          refine pure_ (i := 14) (N := some 202) (v := undef) (a' := ?_) x10a15 rfl rfl (any_of HT_.out (by kernel_rfl)) (fun _ _ _ h => h) (Or.inr ⟨by rfl, rfl⟩) ?_ ?_
          rotate_left
          ·exact xE
          refine pure_ (i := 15) (N := some 203) (v := undef) (a' := ?_) x10a16 rfl rfl (any_of HT_.out (by kernel_rfl)) (fun _ _ _ h => h) (Or.inr ⟨by rfl, rfl⟩) ?_ ?_
          rotate_left
          ·exact xE
          refine pure_ (i := 16) (N := some 204) (v := undef) (a' := ?_) x10a17 rfl rfl (any_of HT_.out (by kernel_rfl)) (fun _ _ _ h => h) (Or.inr ⟨by rfl, rfl⟩) ?_ ?_
          rotate_left
          ·exact xE
          refine pure_ (i := 17) (N := some 205) (v := undef) (a' := ?_) x10a18 rfl rfl (any_of HT_.out (by kernel_rfl)) (fun _ _ _ h => h) (Or.inr ⟨by rfl, rfl⟩) ?_ ?_
          rotate_left
          ·exact xE
          refine pure_ (i := 18) (N := some 206) (v := undef) (a' := ?_) x10a19 rfl rfl (any_of HT_.out (by kernel_rfl)) (fun _ _ _ h => h) (Or.inr ⟨by rfl, rfl⟩) ?_ ?_
          rotate_left
          ·exact xE
          refine pure_ (i := 19) (N := some 207) (v := undef) (a' := ?_) x10a20 rfl rfl (any_of HT_.out (by kernel_rfl)) (fun _ _ _ h => h) (Or.inr ⟨by rfl, rfl⟩) ?_ ?_
          rotate_left
          ·exact xE
          refine pure_ (i := 20) (N := some 208) (v := undef) (a' := ?_) x10a21 rfl rfl (any_of HT_.out (by kernel_rfl)) (fun _ _ _ h => h) (Or.inr ⟨by rfl, rfl⟩) ?_ ?_
          rotate_left
          ·exact xE
          refine pure_ (i := 21) (N := some 209) (v := undef) (a' := ?_) x10a22 rfl rfl (any_of HT_.out (by kernel_rfl)) (fun _ _ _ h => h) (Or.inr ⟨by rfl, rfl⟩) ?_ ?_
          rotate_left
          ·exact xE
          refine pure_ (i := 22) (N := some 210) (v := undef) (a' := ?_) x10a23 rfl rfl (any_of HT_.out (by kernel_rfl)) (fun _ _ _ h => h) (Or.inr ⟨by rfl, rfl⟩) ?_ ?_
          rotate_left
          ·exact xE
          refine pure_ (i := 23) (N := some 211) (v := ?_) (a' := ?_) x10a24 rfl rfl (any_of HT_.out (by kernel_rfl)) (fun _ _ _ h => h) (Or.inl ⟨by rfl, ?_⟩) ?_ ?_; rotate_left; (intro w'; go_simp; with_reducible rfl); rotate_left; exact xE
          refine pure_ (i := 24) (N := some 212) (v := ?_) (a' := ?_) x10a25 rfl rfl (any_of HT_.out (by kernel_rfl)) (fun _ _ _ h => h) (Or.inl ⟨by rfl, ?_⟩) ?_ ?_; rotate_left; (intro w'; go_simp; with_reducible rfl); rotate_left; exact xE
          refine pure_ (i := 25) (N := some 213) (v := ?_) (a' := ?_) x10a26 rfl rfl (any_of HT_.out (by kernel_rfl)) (fun _ _ _ h => h) (Or.inl ⟨by rfl, ?_⟩) ?_ ?_; rotate_left; (intro w'; go_simp; with_reducible rfl); rotate_left; exact xE
          refine pure_ (i := 26) (N := some 214) (v := ?_) (a' := ?_) x10a27 rfl rfl (any_of HT_.out (by kernel_rfl)) (fun _ _ _ h => h) (Or.inl ⟨by rfl, ?_⟩) ?_ ?_; rotate_left; (intro w'; go_simp; with_reducible rfl); rotate_left; exact xE
          refine pure_ (i := 27) (N := some 215) (v := ?_) (a' := ?_) x10a28 rfl rfl (any_of HT_.out (by kernel_rfl)) (fun _ _ _ h => h) (Or.inl ⟨by rfl, ?_⟩) ?_ ?_; rotate_left; (intro w'; go_simp; with_reducible rfl); rotate_left; exact xE
          refine pure_ (i := 28) (N := some 216) (v := undef) (a' := ?_) x10a29 rfl rfl (any_of HT_.out (by kernel_rfl)) (fun _ _ _ h => h) (Or.inr ⟨by rfl, rfl⟩) ?_ ?_
          rotate_left
          ·exact xE
          refine pure_ (i := 29) (N := some 217) (v := undef) (a' := ?_) x10a30 rfl rfl (any_of HT_.out (by kernel_rfl)) (fun _ _ _ h => h) (Or.inr ⟨by rfl, rfl⟩) ?_ ?_
          rotate_left
          ·exact xE
          refine pure_ (i := 30) (N := some 218) (v := undef) (a' := ?_) x10a31 rfl rfl (any_of HT_.out (by kernel_rfl)) (fun _ _ _ h => h) (Or.inr ⟨by rfl, rfl⟩) ?_ ?_
          rotate_left
          ·exact xE
          refine pure_ (i := 31) (N := some 219) (v := undef) (a' := ?_) x10a32 rfl rfl (any_of HT_.out (by kernel_rfl)) (fun _ _ _ h => h) (Or.inr ⟨by rfl, rfl⟩) ?_ ?_
          rotate_left
          ·exact xE
          refine pure_ (i := 32) (N := some 220) (v := undef) (a' := ?_) x10a33 rfl rfl (any_of HT_.out (by kernel_rfl)) (fun _ _ _ h => h) (Or.inr ⟨by rfl, rfl⟩) ?_ ?_
          rotate_left
          ·exact xE
          refine pure_ (i := 33) (N := some 221) (v := undef) (a' := ?_) x10a34 rfl rfl (any_of HT_.out (by kernel_rfl)) (fun _ _ _ h => h) (Or.inr ⟨by rfl, rfl⟩) ?_ ?_
          rotate_left
          ·exact xE
          refine pure_ (i := 34) (N := some 222) (v := undef) (a' := ?_) x10a35 rfl rfl (any_of HT_.out (by kernel_rfl)) (fun _ _ _ h => h) (Or.inr ⟨by rfl, rfl⟩) ?_ ?_
          rotate_left
          ·exact xE
          refine pure_ (i := 35) (N := some 223) (v := ?_) (a' := ?_) x10a36 rfl rfl (any_of HT_.out (by kernel_rfl)) (fun _ _ _ h => h) (Or.inl ⟨by rfl, ?_⟩) ?_ ?_; rotate_left; (intro w'; go_simp; with_reducible rfl); rotate_left; exact xE
          refine pure_ (i := 36) (N := some 224) (v := ?_) (a' := ?_) x10a37 rfl rfl (any_of HT_.out (by kernel_rfl)) (fun _ _ _ h => h) (Or.inl ⟨by rfl, ?_⟩) ?_ ?_; rotate_left; (intro w'; go_simp; with_reducible rfl); rotate_left; exact xE
          refine done_ (done_of HT_.out (by kernel_rfl)) ?_
          obtain ⟨Ao76, co76, eo76⟩ := Kd.R_slice HO_23.out
          subst eo76
          have p537 : 0 ≤ (x183_2 : Int) := of_decide_eq_true (by first | (with_reducible assumption) | assumption)
          have q537 : x183_2 < (t526.length : Int) := of_decide_eq_true (by first | (with_reducible assumption) | assumption)
          obtain ⟨ad537, e537, hx537_0⟩ := Kd.at_int (Kd.R_reads' HO_23.out).2.2 x183_2 p537 q537
          cases e537
          replace p537 := eq_true p537
          replace q537 := eq_true q537
          try go_wp2
          go_roundg k2
          case measure => have := HJ13.out; have := HK2.out; omega
          case rel => exact ⟨(rd t526 x183_2), (wrap64 (x183_2 + 1)), (by first | rfl | (simp; done) | (simp [*]; done)), (by first | rfl | (simp; done) | (simp [*]; done)), H', ⟨by have := HJ13.out; have := HK2.out; omega⟩, ⟨xR HO_5.out⟩, ⟨xR HO_7.out⟩, ⟨xR HO_11.out⟩, ⟨xR HO_19.out⟩, ⟨xR HO_23.out⟩, ⟨xR HO_181.out⟩, ⟨xB HB.out⟩⟩
       subst c65
       have H1 := H
       rw [if_pos rfl] at H1
       clear H
       have H := H1
       clear H1
       by_cases c66 : x183_2 < (t503.length : Int)
       rotate_left
       ·rw [if_neg c66] at H
        exact absurd H (by simp)
       rw [if_pos c66] at H
       have c66b0 : decide (x183_2 < (t503.length : Int)) = true := decide_eq_true c66
       clear c66
       by_cases c67 : x183_2 < (t526.length : Int)
       rotate_left
       ·rw [if_neg c67] at H
        exact absurd H (by simp)
       rw [if_pos c67] at H
       have c67b0 : decide (x183_2 < (t526.length : Int)) = true := decide_eq_true c67
       clear c67
       by_cases c68 : (rd t503 x183_2) = (wrap64 ((rd t491 x183_2) - (rd t526 x183_2)))
       rotate_left
       ·rw [if_neg c68] at H
        have c68b0 : ((rd t503 x183_2) == (wrap64 ((rd t491 x183_2) - (rd t526 x183_2)))) = false := beq_eq_false_iff_ne.mpr c68
        have c68b1 : ((rd t503 x183_2) != (wrap64 ((rd t491 x183_2) - (rd t526 x183_2)))) = true := bne_iff_ne.mpr c68
        exact absurd ((Option.some.inj H).trans HRT.out) (by decide)
       rw [if_pos c68] at H
       have c68b0 : ((rd t503 x183_2) == (wrap64 ((rd t491 x183_2) - (rd t526 x183_2)))) = true := beq_iff_eq.mpr c68
       have c68b1 : ((rd t503 x183_2) != (wrap64 ((rd t491 x183_2) - (rd t526 x183_2)))) = false := bne_eq_false_iff_eq.mpr c68
       clear c68
       replace H := Option.bind_eq_some_iff.mp H
       obtain ⟨t535, A690, H⟩ := H
       (try dsimp only at H)
       have A69 := Aside0.mk A690
       clear A690
       by_cases c70 : t535 > t511
       ·rw [if_pos c70] at H
        have c70b0 : decide (t511 < t535) = true := decide_eq_true c70
        clear c70
        exact absurd ((Option.some.inj H).trans HRT.out) (by decide)
       rw [if_neg c70] at H
       have c70b0 : decide (t511 < t535) = false := decide_eq_false c70
       clear c70
       have H' := Aside0.mk H
       clear H
       have p530 : 0 ≤ (x183_2 : Int) := of_decide_eq_true (by first | (with_reducible assumption) | assumption)
       have q530 : x183_2 < (t491.length : Int) := of_decide_eq_true (by first | (with_reducible assumption) | assumption)
       obtain ⟨ad530, e530, hx530_0⟩ := Kd.at_int (Kd.R_reads' HO_181.out).2.2 x183_2 p530 q530
       cases e530
       replace p530 := eq_true p530
       replace q530 := eq_true q530
       try go_wp2
       have n0_ := Aside0.mk (Kd.R_drew HO_5.out)
       have n1_ := Aside0.mk (Kd.R_drew HO_7.out)
       have n2_ := Aside0.mk (Kd.R_drew HO_11.out)
       have n3_ := Aside0.mk (Kd.R_drew HO_19.out)
       have n4_ := Aside0.mk (Kd.R_drew HO_23.out)
       have n5_ := Aside0.mk (Kd.R_drew HO_181.out)
       have n6_ := Aside0.mk (below_drew1 HB.out)
       clear HO_5
       clear HO_7
       clear HO_11
       clear HO_19
       clear HO_23
       clear HO_181
       clear HB
       have HO_5 := n0_
       have HO_7 := n1_
       have HO_11 := n2_
       have HO_19 := n3_
       have HO_23 := n4_
       have HO_181 := n5_
       have HB := n6_
       clear n0_ n1_ n2_ n3_ n4_ n5_ n6_
       have p531 : 0 ≤ (x183_2 : Int) := of_decide_eq_true (by first | (with_reducible assumption) | assumption)
       have q531 : x183_2 < (t495.length : Int) := of_decide_eq_true (by first | (with_reducible assumption) | assumption)
       obtain ⟨ad531, e531, hx531_0⟩ := Kd.at_int (Kd.R_reads' HO_7.out).2.2 x183_2 p531 q531
       cases e531
       replace p531 := eq_true p531
       replace q531 := eq_true q531
       obtain ⟨Ao72, co72, eo72⟩ := Kd.R_slice HO_11.out
       (first | subst eo72 | (injection eo72 with f1_ f2_ f3_; have f4_ := f1_.symm; have f5_ := f3_.symm; clear f1_ f2_ f3_; subst f4_; subst f5_))
       have p532 : 0 ≤ (x183_2 : Int) := of_decide_eq_true (by first | (with_reducible assumption) | assumption)
       have q532 : x183_2 < (t503.length : Int) := of_decide_eq_true (by first | (with_reducible assumption) | assumption)
       obtain ⟨ad532, e532, hx532_0⟩ := Kd.at_int (Kd.R_reads' HO_11.out).2.2 x183_2 p532 q532
       cases e532
       replace p532 := eq_true p532
       replace q532 := eq_true q532
       obtain ⟨Ao73, co73, eo73⟩ := Kd.R_slice HO_23.out
       (first | subst eo73 | (injection eo73 with f1_ f2_ f3_; have f4_ := f1_.symm; have f5_ := f3_.symm; clear f1_ f2_ f3_; subst f4_; subst f5_))
       have p533 : 0 ≤ (x183_2 : Int) := of_decide_eq_true (by first | (with_reducible assumption) | assumption)
       have q533 : x183_2 < (t526.length : Int) := of_decide_eq_true (by first | (with_reducible assumption) | assumption)
       obtain ⟨ad533, e533, hx533_0⟩ := Kd.at_int (Kd.R_reads' HO_23.out).2.2 x183_2 p533 q533
       cases e533
       replace p533 := eq_true p533
       replace q533 := eq_true q533
       have p534 : 0 ≤ (x183_2 : Int) := of_decide_eq_true (by first | (with_reducible assumption) | assumption)
       have q534 : x183_2 < (t503.length : Int) := of_decide_eq_true (by first | (with_reducible assumption) | assumption)
       obtain ⟨ad534, e534, hx534_0⟩ := Kd.at_int (Kd.R_reads' HO_11.out).2.2 x183_2 p534 q534
       obtain rfl : ad532 = ad534 := (by injection e534)
       replace p534 := eq_true p534
       replace q534 := eq_true q534
       refine start_ (n := 37) (S := fun w' => w'.cell? (ad531.add (x183_2).toNat) = some (.int .i64 (rd t495 x183_2)) ∧ w'.cell? (ad532.add (x183_2).toNat) = some (.int .i64 (rd t503 x183_2)) ∧ w'.cell? (ad533.add (x183_2).toNat) = some (.int .i64 (rd t526 x183_2)) ∧ w'.cell? (ad532.add (x183_2).toNat) = some (.int .i64 (rd t503 x183_2))) (ds := []) x10a0 (by kernel_rfl) rfl rfl ⟨hx531_0, hx532_0, hx533_0, hx534_0⟩ (fun hHeld => ?_); refine with_tabW laws_FnStepsAdapt.tab23 laws_FnStepsAdapt.bits23 (fun HT_ HW_ => ?_)
       generalize wr.drew = w71 at HO_5 HO_7 HO_11 HO_19 HO_23 HO_181 HB hx531_0 hx532_0 hx533_0 hx534_0 hHeld ⊢
       refine pure_ (i := 0) (N := some 188) (v := ?_) (a' := ?_) x10a1 rfl rfl (any_of HT_.out (by kernel_rfl)) (fun _ _ _ h => h) (Or.inl ⟨by rfl, ?_⟩) ?_ ?_; rotate_left; (intro w'; go_simp; with_reducible rfl); rotate_left; exact xE
       refine pure_ (i := 1) (N := some 189) (v := ?_) (a' := ?_) x10a2 rfl rfl (any_of HT_.out (by kernel_rfl)) (fun _ _ _ h => h) (Or.inl ⟨by rfl, ?_⟩) ?_ ?_; rotate_left; (intro w'; go_simp; with_reducible rfl); rotate_left; exact xE
       refine pure_ (i := 2) (N := some 190) (v := ?_) (a' := ?_) x10a3 rfl rfl (any_of HT_.out (by kernel_rfl)) (fun _ _ _ h => h) (Or.inl ⟨by rfl, ?_⟩) ?_ ?_; rotate_left; (intro w'; go_simp; with_reducible rfl); rotate_left; exact xE
       refine pure_ (i := 5) (N := some 193) (v := ?_) (a' := ?_) x10a4 rfl rfl (any_of HT_.out (by kernel_rfl)) (fun _ _ _ h => h) (Or.inl ⟨by rfl, ?_⟩) ?_ ?_; rotate_left; (intro w'; go_simp; with_reducible rfl); rotate_left; exact xE
       refine pure_ (i := 6) (N := some 194) (v := ?_) (a' := ?_) x10a5 rfl rfl (any_of HT_.out (by kernel_rfl)) (fun _ _ _ h => h) (Or.inl ⟨by rfl, ?_⟩) ?_ ?_; rotate_left; (intro w'; go_simp; with_reducible rfl); rotate_left; exact xE
       refine pure_ (i := 7) (N := some 195) (v := ?_) (a' := ?_) x10a6 rfl rfl (any_of HT_.out (by kernel_rfl)) (fun _ _ _ h => h) (Or.inl ⟨by rfl, ?_⟩) ?_ ?_; rotate_left; (intro w'; go_simp; with_reducible rfl); rotate_left; exact xE
       refine take_ (i := 3) (N := some 191) (v := ?_) (a' := ?_) x10a7 rfl rfl (take_ofW HT_.out HW_.out (by kernel_rfl)) (fun _ _ _ h => h) (Or.inl ⟨by rfl, ?_⟩) hHeld ?_ ?_
       rotate_left
       ·rintro w' ⟨s0, s1, s2, s3⟩
        go_simp
        with_reducible rfl
       rotate_left
       ·exact xE
       refine pure_ (i := 4) (N := some 192) (v := ?_) (a' := ?_) x10a8 rfl rfl (any_of HT_.out (by kernel_rfl)) (fun _ _ _ h => h) (Or.inl ⟨by rfl, ?_⟩) ?_ ?_; rotate_left; (intro w'; go_simp; with_reducible rfl); rotate_left; exact xE
       refine pure_ (i := 8) (N := some 196) (v := ?_) (a' := ?_) x10a9 rfl rfl (any_of HT_.out (by kernel_rfl)) (fun _ _ _ h => h) (Or.inl ⟨by rfl, ?_⟩) ?_ ?_; rotate_left; (intro w'; go_simp; with_reducible rfl); rotate_left; exact xE
       refine pure_ (i := 9) (N := some 197) (v := ?_) (a' := ?_) x10a10 rfl rfl (any_of HT_.out (by kernel_rfl)) (fun _ _ _ h => h) (Or.inl ⟨by rfl, ?_⟩) ?_ ?_; rotate_left; (intro w'; go_simp; with_reducible rfl); rotate_left; exact xE
       refine pure_ (i := 10) (N := some 198) (v := ?_) (a' := ?_) x10a11 rfl rfl (any_of HT_.out (by kernel_rfl)) (fun _ _ _ h => h) (Or.inl ⟨by rfl, ?_⟩) ?_ ?_; rotate_left; (intro w'; go_simp; with_reducible rfl); rotate_left; exact xE
       refine pure_ (i := 11) (N := some 199) (v := ?_) (a' := ?_) x10a12 rfl rfl (any_of HT_.out (by kernel_rfl)) (fun _ _ _ h => h) (Or.inl ⟨by rfl, ?_⟩) ?_ ?_; rotate_left; (intro w'; go_simp; with_reducible rfl); rotate_left; exact xE
       refine pure_ (i := 12) (N := some 200) (v := ?_) (a' := ?_) x10a13 rfl rfl (any_of HT_.out (by kernel_rfl)) (fun _ _ _ h => h) (Or.inl ⟨by rfl, ?_⟩) ?_ ?_; rotate_left; (intro w'; go_simp; with_reducible rfl); rotate_left; exact xE
       refine pure_ (i := 13) (N := some 201) (v := ?_) (a' := ?_) x10a14 rfl rfl (any_of HT_.out (by kernel_rfl)) (fun _ _ _ h => h) (Or.inl ⟨by rfl, ?_⟩) ?_ ?_; rotate_left; (intro w'; go_simp; with_reducible rfl); rotate_left; exact xE
       refine pure_ (i := 14) (N := some 202) (v := ?_) (a' := ?_) x10a15 rfl rfl (any_of HT_.out (by kernel_rfl)) (fun _ _ _ h => h) (Or.inl ⟨by rfl, ?_⟩) ?_ ?_; rotate_left; (intro w'; go_simp; with_reducible rfl); rotate_left; exact xE
       refine pure_ (i := 16) (N := some 204) (v := ?_) (a' := ?_) x10a38 rfl rfl (any_of HT_.out (by kernel_rfl)) (fun _ _ _ h => h) (Or.inl ⟨by rfl, ?_⟩) ?_ ?_; rotate_left; (intro w'; go_simp; with_reducible rfl); rotate_left; exact xE
       refine pure_ (i := 17) (N := some 205) (v := ?_) (a' := ?_) x10a39 rfl rfl (any_of HT_.out (by kernel_rfl)) (fun _ _ _ h => h) (Or.inl ⟨by rfl, ?_⟩) ?_ ?_; rotate_left; (intro w'; go_simp; with_reducible rfl); rotate_left; exact xE
       refine pure_ (i := 18) (N := some 206) (v := ?_) (a' := ?_) x10a40 rfl rfl (any_of HT_.out (by kernel_rfl)) (fun _ _ _ h => h) (Or.inl ⟨by rfl, ?_⟩) ?_ ?_; rotate_left; (intro w'; go_simp; with_reducible rfl); rotate_left; exact xE
       refine pure_ (i := 19) (N := some 207) (v := ?_) (a' := ?_) x10a41 rfl rfl (any_of HT_.out (by kernel_rfl)) (fun _ _ _ h => h) (Or.inl ⟨by rfl, ?_⟩) ?_ ?_; rotate_left; (intro w'; go_simp; with_reducible rfl); rotate_left; exact xE
       refine take_ (i := 15) (N := some 203) (v := ?_) (a' := ?_) x10a20 rfl rfl (take_ofW HT_.out HW_.out (by kernel_rfl)) (fun _ _ _ h => h) (Or.inl ⟨by rfl, ?_⟩) hHeld ?_ ?_
       rotate_left
       ·rintro w' ⟨s0, s1, s2, s3⟩
        go_simp
        with_reducible rfl
       rotate_left
       ·exact xE
       refine take_ (i := 20) (N := some 208) (v := ?_) (a' := ?_) x10a21 rfl rfl (take_ofW HT_.out HW_.out (by kernel_rfl)) (fun _ _ _ h => h) (Or.inl ⟨by rfl, ?_⟩) hHeld ?_ ?_
       rotate_left
       ·rintro w' ⟨s0, s1, s2, s3⟩
        go_simp
        with_reducible rfl
       rotate_left
       ·exact xE
       refine pure_ (i := 21) (N := some 209) (v := ?_) (a' := ?_) x10a22 rfl rfl (any_of HT_.out (by kernel_rfl)) (fun _ _ _ h => h) (Or.inl ⟨by rfl, ?_⟩) ?_ ?_; rotate_left; (intro w'; go_simp; with_reducible rfl); rotate_left; exact xE
       refine pure_ (i := 22) (N := some 210) (v := ?_) (a' := ?_) x10a23 rfl rfl (any_of HT_.out (by kernel_rfl)) (fun _ _ _ h => h) (Or.inl ⟨by rfl, ?_⟩) ?_ ?_; rotate_left; (intro w'; go_simp; with_reducible rfl); rotate_left; exact xE
       refine pure_ (i := 23) (N := some 211) (v := ?_) (a' := ?_) x10a24 rfl rfl (any_of HT_.out (by kernel_rfl)) (fun _ _ _ h => h) (Or.inl ⟨by rfl, ?_⟩) ?_ ?_; rotate_left; (intro w'; go_simp; with_reducible rfl); rotate_left; exact xE
       refine pure_ (i := 24) (N := some 212) (v := ?_) (a' := ?_) x10a25 rfl rfl (any_of HT_.out (by kernel_rfl)) (fun _ _ _ h => h) (Or.inl ⟨by rfl, ?_⟩) ?_ ?_; rotate_left; (intro w'; go_simp; with_reducible rfl); rotate_left; exact xE
       refine pure_ (i := 25) (N := some 213) (v := ?_) (a' := ?_) x10a26 rfl rfl (any_of HT_.out (by kernel_rfl)) (fun _ _ _ h => h) (Or.inl ⟨by rfl, ?_⟩) ?_ ?_; rotate_left; (intro w'; go_simp; with_reducible rfl); rotate_left; exact xE
       refine pure_ (i := 26) (N := some 214) (v := ?_) (a' := ?_) x10a27 rfl rfl (any_of HT_.out (by kernel_rfl)) (fun _ _ _ h => h) (Or.inl ⟨by rfl, ?_⟩) ?_ ?_; rotate_left; (intro w'; go_simp; with_reducible rfl); rotate_left; exact xE
       refine pure_ (i := 27) (N := some 215) (v := ?_) (a' := ?_) x10a28 rfl rfl (any_of HT_.out (by kernel_rfl)) (fun _ _ _ h => h) (Or.inl ⟨by rfl, ?_⟩) ?_ ?_; rotate_left; (intro w'; go_simp; with_reducible rfl); rotate_left; exact xE
       refine pure_ (i := 28) (N := some 216) (v := ?_) (a' := ?_) x10a29 rfl rfl (any_of HT_.out (by kernel_rfl)) (fun _ _ _ h => h) (Or.inl ⟨by rfl, ?_⟩) ?_ ?_; rotate_left; (intro w'; go_simp; with_reducible rfl); rotate_left; exact xE
       refine pure_ (i := 29) (N := some 217) (v := ?_) (a' := ?_) x10a30 rfl rfl (any_of HT_.out (by kernel_rfl)) (fun _ _ _ h => h) (Or.inl ⟨by rfl, ?_⟩) ?_ ?_; rotate_left; (intro w'; go_simp; with_reducible rfl); rotate_left; exact xE
       refine pure_ (i := 30) (N := some 218) (v := ?_) (a' := ?_) x10a31 rfl rfl (any_of HT_.out (by kernel_rfl)) (fun _ _ _ h => h) (Or.inl ⟨by rfl, ?_⟩) ?_ ?_; rotate_left; (intro w'; go_simp; with_reducible rfl); rotate_left; exact xE
       refine pure_ (i := 33) (N := some 221) (v := ?_) (a' := ?_) x10a42 rfl rfl (any_of HT_.out (by kernel_rfl)) (fun _ _ _ h => h) (Or.inl ⟨by rfl, ?_⟩) ?_ ?_; rotate_left; (intro w'; go_simp; with_reducible rfl); rotate_left; exact xE
       refine take_ (i := 31) (N := some 219) (v := ?_) (a' := ?_) x10a43 rfl rfl (take_ofW HT_.out HW_.out (by kernel_rfl)) (fun _ _ _ h => h) (Or.inl ⟨by rfl, ?_⟩) hHeld ?_ ?_
       rotate_left
       ·rintro w' ⟨s0, s1, s2, s3⟩
        go_simp
        with_reducible rfl
       rotate_left
       ·exact xE
       refine one_ (i := 32) (N := some 220) x10a34 rfl rfl (one_of HT_.out (by kernel_rfl)) (by decide) (fun K hK => ?_)
       refine goes_ Try.func46 (by kernel_rfl) rfl #[.int .i64 (rd t503 x183_2)] (by rfl) rfl rfl (by (try simp only [List.map_toArray, List.map_cons, List.map_nil]); first | done | rfl | (simp only [List.length_drop, List.length_take]; rfl)) ?_
       with_reducible refine (laws_uAbs.calls (rd t503 x183_2) t535 _ A69.out).mono ?_
       rintro e w' ⟨rfl, ⟨nd, rfl⟩⟩
       refine ⟨_, rfl, ?_⟩
       refine hK.out _ _ ⟨hHeld.1, hHeld.2.1, hHeld.2.2.1, hHeld.2.2.2⟩ (fun hHeld => ?_)
       clear hK K
       refine norm_ (a' := ?_) ?_ ?_
       rotate_left
       ·show Act.put _ (some 220) _ = _
        simp only [Act.put, List.setIfInBounds_toArray, List.set_cons_zero, List.set_cons_succ, i64_w, i32_w]
        rfl
       refine pure_ (i := 34) (N := some 222) (v := ?_) (a' := ?_) x10a35 rfl rfl (any_of HT_.out (by kernel_rfl)) (fun _ _ _ h => h) (Or.inl ⟨by rfl, ?_⟩) ?_ ?_; rotate_left; (intro w'; go_simp; with_reducible rfl); rotate_left; exact xE
       refine pure_ (i := 35) (N := some 223) (v := ?_) (a' := ?_) x10a36 rfl rfl (any_of HT_.out (by kernel_rfl)) (fun _ _ _ h => h) (Or.inl ⟨by rfl, ?_⟩) ?_ ?_; rotate_left; (intro w'; go_simp; with_reducible rfl); rotate_left; exact xE
       refine pure_ (i := 36) (N := some 224) (v := ?_) (a' := ?_) x10a37 rfl rfl (any_of HT_.out (by kernel_rfl)) (fun _ _ _ h => h) (Or.inl ⟨by rfl, ?_⟩) ?_ ?_; rotate_left; (intro w'; go_simp; with_reducible rfl); rotate_left; exact xE
       refine done_ (done_of HT_.out (by kernel_rfl)) ?_
       have p536 : 0 ≤ (x183_2 : Int) := of_decide_eq_true (by first | (with_reducible assumption) | assumption)
       have q536 : x183_2 < (t526.length : Int) := of_decide_eq_true (by first | (with_reducible assumption) | assumption)
       obtain ⟨ad536, e536, hx536_0⟩ := Kd.at_int (Kd.R_reads' HO_23.out).2.2 x183_2 p536 q536
       obtain rfl : ad533 = ad536 := (by injection e536)
       replace p536 := eq_true p536
       replace q536 := eq_true q536
       try go_wp2
       go_roundg k2
       case measure => have := HJ13.out; have := HK2.out; omega
       case rel => exact ⟨(rd t526 x183_2), (wrap64 (x183_2 + 1)), (by first | rfl | (simp; done) | (simp [*]; done)), (by first | rfl | (simp; done) | (simp [*]; done)), H', ⟨by have := HJ13.out; have := HK2.out; omega⟩, ⟨xR HO_5.out⟩, ⟨xR HO_7.out⟩, ⟨xR HO_11.out⟩, ⟨xR HO_19.out⟩, ⟨xR HO_23.out⟩, ⟨xR HO_181.out⟩, ⟨xB HB.out⟩⟩
    case rest => as_aux_lemma =>
     clear HC56
     obtain ⟨kq, HA, HJ55, HO_5, HO_19, HB⟩ := hcut
     cases kq with
     | zero => exact absurd HA.out (by simp [laws_FnStepsAdapt.j2])
     | succ kj55 =>
      have H := HA.out
      clear HA
      simp only [laws_FnStepsAdapt.j2] at H
      replace H := Option.bind_eq_some_iff.mp H
      obtain ⟨⟨t538, t539⟩, A770, H⟩ := H
      (try dsimp only at H)
      have A77 := Aside0.mk A770
      clear A770
      by_cases c78 : t539 = true
      rotate_left
      ·as_aux_lemma =>
        replace c78 := Bool.eq_false_iff.mpr c78
        subst c78
        have H1 := H
        rw [if_neg (show ¬ (false = true) by decide)] at H1
        clear H
        have H := H1
        clear H1
        have H' := Aside0.mk H
        clear H
        obtain ⟨Ao90, co90, eo90⟩ := Kd.R_slice HO_19.out
        subst eo90
        go_wp2_with (first | ((with_reducible refine gate_callee (f := 47) rfl ?_); refine goesL_ (some 233) rfl rfl Try.func47 (by kernel_rfl) rfl #[.slice Ao90 t515.length co90, .int .i64 t492] rfl (by (try simp only [List.map_toArray, List.map_cons, List.map_nil]); first | done | rfl | (simp only [List.length_drop, List.length_take]; rfl)) ?_; (with_reducible refine (impl_FixedValues.calls kj55 _ _ t515 t492 t538 false _ ?side1 ?side2 A77.out).mono ?_); (case side1 => exact xC ((Kd.R_reads' HO_19.out).2.2)); (case side2 => exact (Kd.R_reads' HO_19.out).2.1); rintro e w91 ⟨v540, rfl, ho0, hb⟩; refine ⟨_, rfl, ?_⟩; have n0_ := Aside0.mk (Kd.R_elder' (xR HO_5.out) (Kd.R_base ho0) hb); have n1_ := Aside0.mk (Kd.R_elder' (xR HO_19.out) (Kd.R_base ho0) hb); have n2_ := Aside0.mk (Kd.R_lower (Kd.R_new' (Kd.R_new' ho0 (Kd.R_lt (xR HO_5.out))) (Kd.R_lt (xR HO_19.out))) (below_size (xB HB.out))); have n3_ := Aside0.mk (below_step (xB HB.out) hb); clear HO_5; clear HO_19; clear HB; have HO_5 := n0_; have HO_19 := n1_; have HO541 := n2_; have HB := n3_; clear n0_ n1_ n2_ n3_; (try clear hb); (try clear hb2); (try clear hk); (try clear hi); (try clear ho0)))
        go_meet
        case rel => exact ⟨_, H', ⟨by have := HJ13.out; have := HJ55.out; first | omega | exact Nat.le_refl _⟩, ⟨xB HB.out⟩⟩
      subst c78
      have H1 := H
      rw [if_pos rfl] at H1
      clear H
      have H := H1
      clear H1
      have H' := Aside0.mk H
      clear H
      obtain ⟨Ao79, co79, eo79⟩ := Kd.R_slice HO_19.out
      subst eo79
      go_wp2_with (first | ((with_reducible refine gate_callee (f := 47) rfl ?_); refine goesL_ (some 233) rfl rfl Try.func47 (by kernel_rfl) rfl #[.slice Ao79 t515.length co79, .int .i64 t492] rfl (by (try simp only [List.map_toArray, List.map_cons, List.map_nil]); first | done | rfl | (simp only [List.length_drop, List.length_take]; rfl)) ?_; (with_reducible refine (impl_FixedValues.calls kj55 _ _ t515 t492 t538 true _ ?side1 ?side2 A77.out).mono ?_); (case side1 => exact xC ((Kd.R_reads' HO_19.out).2.2)); (case side2 => exact (Kd.R_reads' HO_19.out).2.1); rintro e w80 ⟨v540, rfl, ho0, hb⟩; refine ⟨_, rfl, ?_⟩; have n0_ := Aside0.mk (Kd.R_elder' (xR HO_5.out) (Kd.R_base ho0) hb); have n1_ := Aside0.mk (Kd.R_elder' (xR HO_19.out) (Kd.R_base ho0) hb); have n2_ := Aside0.mk (Kd.R_lower (Kd.R_new' (Kd.R_new' ho0 (Kd.R_lt (xR HO_5.out))) (Kd.R_lt (xR HO_19.out))) (below_size (xB HB.out))); have n3_ := Aside0.mk (below_step (xB HB.out) hb); clear HO_5; clear HO_19; clear HB; have HO_5 := n0_; have HO_19 := n1_; have HO541 := n2_; have HB := n3_; clear n0_ n1_ n2_ n3_; (try clear hb); (try clear hb2); (try clear hk); (try clear hi); (try clear ho0)))
      go_loopg [30, 239] kj55 (fun kq v30 v239 w' => ∃ (x30_3 : Int) (x239_3 : Int), v30 = .int .i64 x30_3 ∧ v239 = .int .i64 x239_3 ∧ Aside0 (laws_FnStepsAdapt.l1 kq l1 t492 t515 t538 x30_3 t491 (t491.length : Int) x239_3 = some r) ∧ Aside0 (kq ≤ kj55) ∧ Aside0 (Kd.R (Kd.int .i64) 3 w' w.heap.size (fun k_ => some k_ ≠ (v540 : Value).ownBlock ∧ some k_ ≠ ((.slice Ao16 t491.length co16) : Value).ownBlock) (.slice Ao79 t515.length co79) t515) ∧ Aside0 (Kd.R (Kd.int .i64) 3 w' w.heap.size (fun k_ => some k_ ≠ ((.slice Ao79 t515.length co79) : Value).ownBlock ∧ some k_ ≠ ((.slice Ao16 t491.length co16) : Value).ownBlock) v540 t538) ∧ Aside0 (Kd.R (Kd.int .i64) 3 w' w.heap.size (fun k_ => some k_ ≠ ((.slice Ao79 t515.length co79) : Value).ownBlock ∧ some k_ ≠ (v540 : Value).ownBlock) (.slice Ao16 t491.length co16) t491) ∧ Aside0 (Below w.heap.size w w'))
      case atStart => exact ⟨(0), (0), (by first | rfl | (simp; done) | (simp [*]; done)), (by first | rfl | (simp; done) | (simp [*]; done)), H', ⟨Nat.le_refl _⟩, ⟨by (with_reducible repeat (first | apply Kd.R_alloc | apply Kd.R_drewN | apply Kd.R_drew)); exact Kd.R_mono HO_19.out (fun _ hk => ⟨hk.2, hk.1⟩)⟩, ⟨by (with_reducible repeat (first | apply Kd.R_alloc | apply Kd.R_drewN | apply Kd.R_drew)); exact Kd.R_mono HO541.out (fun _ hk => ⟨hk.2, hk.1.2⟩)⟩, ⟨xR HO_5.out⟩, ⟨xB HB.out⟩⟩
      case round =>
       clear H'
       try clear c78
       obtain ⟨x30_3, x239_3, rfl, rfl, HA, HK3, HO_19, HO_28, HO_237, HB⟩ := hrel
       cases gk with
       | zero => exact absurd HA.out (by simp [laws_FnStepsAdapt.l1])
       | succ k3 =>
        have H := HA.out
        clear HA
        simp only [laws_FnStepsAdapt.l1] at H
        by_cases c81 : x239_3 < (t491.length : Int)
        rotate_left
        ·as_aux_lemma =>
          rw [if_neg c81] at H
          have c81b0 : decide (x239_3 < (t491.length : Int)) = false := decide_eq_false c81
          clear c81
          have H' := Aside0.mk H
          clear H
          go_wp2
          go_meet
          case rel => exact ⟨_, H', ⟨by have := HJ13.out; have := HJ55.out; have := HK3.out; first | omega | exact Nat.le_refl _⟩, ⟨xB HB.out⟩⟩
        rw [if_pos c81] at H
        have c81b0 : decide (x239_3 < (t491.length : Int)) = true := decide_eq_true c81
        clear c81
        by_cases c82 : 0 ≤ x239_3
        rotate_left
        ·rw [if_neg c82] at H
         exact absurd H (by simp)
        rw [if_pos c82] at H
        have c82b0 : decide (0 ≤ x239_3) = true := decide_eq_true c82
        clear c82
        by_cases c83 : x239_3 < (t491.length : Int)
        rotate_left
        ·rw [if_neg c83] at H
         exact absurd H (by simp)
        rw [if_pos c83] at H
        have c83b0 : decide (x239_3 < (t491.length : Int)) = true := decide_eq_true c83
        clear c83
        by_cases c84 : x239_3 < (t515.length : Int)
        rotate_left
        ·rw [if_neg c84] at H
         exact absurd H (by simp)
        rw [if_pos c84] at H
        have c84b0 : decide (x239_3 < (t515.length : Int)) = true := decide_eq_true c84
        clear c84
        by_cases c85 : (((rd t515 x239_3) == 1) != (decide ((rd t491 x239_3) ≥ x30_3))) = true
        ·as_aux_lemma =>
          rw [if_pos c85] at H
          have c85b0 : (((rd t515 x239_3) == 1) != (decide ((rd t491 x239_3) ≥ x30_3))) = true := c85
          (try (have c85b1 : decide (((rd t515 x239_3) == 1) = (decide ((rd t491 x239_3) ≥ x30_3))) = false := by simpa using c85))
          (try (have c85b2 : (((rd t515 x239_3) == 1) == (decide ((rd t491 x239_3) ≥ x30_3))) = false := by simpa using c85))
          (try (have c85b3 : ¬ (((rd t515 x239_3) == 1) = (decide ((rd t491 x239_3) ≥ x30_3))) := by simpa using c85))
          clear c85
          exact absurd ((Option.some.inj H).trans HRT.out) (by decide)
        rw [if_neg c85] at H
        have c85b0 : (((rd t515 x239_3) == 1) != (decide ((rd t491 x239_3) ≥ x30_3))) = false := by simpa using c85
        (try (have c85b1 : decide (((rd t515 x239_3) == 1) = (decide ((rd t491 x239_3) ≥ x30_3))) = true := by simpa using c85))
        (try (have c85b2 : (((rd t515 x239_3) == 1) == (decide ((rd t491 x239_3) ≥ x30_3))) = true := by simpa using c85))
        clear c85
        by_cases c86 : x239_3 < (t538.length : Int)
        rotate_left
        ·rw [if_neg c86] at H
         exact absurd H (by simp)
        rw [if_pos c86] at H
        have c86b0 : decide (x239_3 < (t538.length : Int)) = true := decide_eq_true c86
        clear c86
        by_cases c87 : (wrap64 ((rd t538 x239_3) - x30_3)) = (wrap64 ((rd t515 x239_3) * t492))
        rotate_left
        ·rw [if_neg c87] at H
         have c87b0 : ((wrap64 ((rd t538 x239_3) - x30_3)) == (wrap64 ((rd t515 x239_3) * t492))) = false := beq_eq_false_iff_ne.mpr c87
         have c87b1 : ((wrap64 ((rd t538 x239_3) - x30_3)) != (wrap64 ((rd t515 x239_3) * t492))) = true := bne_iff_ne.mpr c87
         exact absurd ((Option.some.inj H).trans HRT.out) (by decide)
        rw [if_pos c87] at H
        have c87b0 : ((wrap64 ((rd t538 x239_3) - x30_3)) == (wrap64 ((rd t515 x239_3) * t492))) = true := beq_iff_eq.mpr c87
        have c87b1 : ((wrap64 ((rd t538 x239_3) - x30_3)) != (wrap64 ((rd t515 x239_3) * t492))) = false := bne_eq_false_iff_eq.mpr c87
        clear c87
        have H' := Aside0.mk H
        clear H
        have p542 : 0 ≤ (x239_3 : Int) := of_decide_eq_true (by first | (with_reducible assumption) | assumption)
        have q542 : x239_3 < (t491.length : Int) := of_decide_eq_true (by first | (with_reducible assumption) | assumption)
        obtain ⟨ad542, e542, hx542_0⟩ := Kd.at_int (Kd.R_reads' HO_237.out).2.2 x239_3 p542 q542
        cases e542
        replace p542 := eq_true p542
        replace q542 := eq_true q542
        try go_wp2
        have n0_ := Aside0.mk (Kd.R_drew HO_19.out)
        have n1_ := Aside0.mk (Kd.R_drew HO_28.out)
        have n2_ := Aside0.mk (Kd.R_drew HO_237.out)
        have n3_ := Aside0.mk (below_drew1 HB.out)
        clear HO_19
        clear HO_28
        clear HO_237
        clear HB
        have HO_19 := n0_
        have HO_28 := n1_
        have HO_237 := n2_
        have HB := n3_
        clear n0_ n1_ n2_ n3_
        have p543 : 0 ≤ (x239_3 : Int) := of_decide_eq_true (by first | (with_reducible assumption) | assumption)
        have q543 : x239_3 < (t515.length : Int) := of_decide_eq_true (by first | (with_reducible assumption) | assumption)
        obtain ⟨ad543, e543, hx543_0⟩ := Kd.at_int (Kd.R_reads' HO_19.out).2.2 x239_3 p543 q543
        cases e543
        replace p543 := eq_true p543
        replace q543 := eq_true q543
        obtain ⟨Ao89, co89, eo89⟩ := Kd.R_slice HO_28.out
        (first | subst eo89 | (injection eo89 with f1_ f2_ f3_; have f4_ := f1_.symm; have f5_ := f3_.symm; clear f1_ f2_ f3_; subst f4_; subst f5_))
        have p544 : 0 ≤ (x239_3 : Int) := of_decide_eq_true (by first | (with_reducible assumption) | assumption)
        have q544 : x239_3 < (t538.length : Int) := of_decide_eq_true (by first | (with_reducible assumption) | assumption)
        obtain ⟨ad544, e544, hx544_0⟩ := Kd.at_int (Kd.R_reads' HO_28.out).2.2 x239_3 p544 q544
        cases e544
        replace p544 := eq_true p544
        replace q544 := eq_true q544
        have p545 : 0 ≤ (x239_3 : Int) := of_decide_eq_true (by first | (with_reducible assumption) | assumption)
        have q545 : x239_3 < (t515.length : Int) := of_decide_eq_true (by first | (with_reducible assumption) | assumption)
        obtain ⟨ad545, e545, hx545_0⟩ := Kd.at_int (Kd.R_reads' HO_19.out).2.2 x239_3 p545 q545
        obtain rfl : ad543 = ad545 := (by injection e545)
        replace p545 := eq_true p545
        replace q545 := eq_true q545
        refine start_ (n := 24) (S := fun w' => w'.cell? (ad543.add (x239_3).toNat) = some (.int .i64 (rd t515 x239_3)) ∧ w'.cell? (ad544.add (x239_3).toNat) = some (.int .i64 (rd t538 x239_3)) ∧ w'.cell? (ad543.add (x239_3).toNat) = some (.int .i64 (rd t515 x239_3))) (ds := []) x10a44 (by kernel_rfl) rfl rfl ⟨hx543_0, hx544_0, hx545_0⟩ (fun hHeld => ?_); refine with_tabW laws_FnStepsAdapt.tab33 laws_FnStepsAdapt.bits33 (fun HT_ HW_ => ?_)
        generalize wr.drew = w88 at HO_19 HO_28 HO_237 HB hx543_0 hx544_0 hx545_0 hHeld ⊢
        refine pure_ (i := 0) (N := some 244) (v := ?_) (a' := ?_) x10a45 rfl rfl (any_of HT_.out (by kernel_rfl)) (fun _ _ _ h => h) (Or.inl ⟨by rfl, ?_⟩) ?_ ?_; rotate_left; (intro w'; go_simp; with_reducible rfl); rotate_left; exact xE
        refine pure_ (i := 1) (N := some 245) (v := ?_) (a' := ?_) x10a46 rfl rfl (any_of HT_.out (by kernel_rfl)) (fun _ _ _ h => h) (Or.inl ⟨by rfl, ?_⟩) ?_ ?_; rotate_left; (intro w'; go_simp; with_reducible rfl); rotate_left; exact xE
        refine pure_ (i := 2) (N := some 246) (v := ?_) (a' := ?_) x10a47 rfl rfl (any_of HT_.out (by kernel_rfl)) (fun _ _ _ h => h) (Or.inl ⟨by rfl, ?_⟩) ?_ ?_; rotate_left; (intro w'; go_simp; with_reducible rfl); rotate_left; exact xE
        refine pure_ (i := 5) (N := some 249) (v := ?_) (a' := ?_) x10a48 rfl rfl (any_of HT_.out (by kernel_rfl)) (fun _ _ _ h => h) (Or.inl ⟨by rfl, ?_⟩) ?_ ?_; rotate_left; (intro w'; go_simp; with_reducible rfl); rotate_left; exact xE
        refine pure_ (i := 6) (N := some 250) (v := ?_) (a' := ?_) x10a49 rfl rfl (any_of HT_.out (by kernel_rfl)) (fun _ _ _ h => h) (Or.inl ⟨by rfl, ?_⟩) ?_ ?_; rotate_left; (intro w'; go_simp; with_reducible rfl); rotate_left; exact xE
        refine pure_ (i := 7) (N := some 251) (v := ?_) (a' := ?_) x10a50 rfl rfl (any_of HT_.out (by kernel_rfl)) (fun _ _ _ h => h) (Or.inl ⟨by rfl, ?_⟩) ?_ ?_; rotate_left; (intro w'; go_simp; with_reducible rfl); rotate_left; exact xE
        refine take_ (i := 3) (N := some 247) (v := ?_) (a' := ?_) x10a51 rfl rfl (take_ofW HT_.out HW_.out (by kernel_rfl)) (fun _ _ _ h => h) (Or.inl ⟨by rfl, ?_⟩) hHeld ?_ ?_
        rotate_left
        ·rintro w' ⟨s0, s1, s2⟩
         go_simp
         with_reducible rfl
        rotate_left
        ·exact xE
        refine pure_ (i := 4) (N := some 248) (v := ?_) (a' := ?_) x10a52 rfl rfl (any_of HT_.out (by kernel_rfl)) (fun _ _ _ h => h) (Or.inl ⟨by rfl, ?_⟩) ?_ ?_; rotate_left; (intro w'; go_simp; with_reducible rfl); rotate_left; exact xE
        refine pure_ (i := 8) (N := some 252) (v := ?_) (a' := ?_) x10a53 rfl rfl (any_of HT_.out (by kernel_rfl)) (fun _ _ _ h => h) (Or.inl ⟨by rfl, ?_⟩) ?_ ?_; rotate_left; (intro w'; go_simp; with_reducible rfl); rotate_left; exact xE
        refine pure_ (i := 9) (N := some 253) (v := ?_) (a' := ?_) x10a54 rfl rfl (any_of HT_.out (by kernel_rfl)) (fun _ _ _ h => h) (Or.inl ⟨by rfl, ?_⟩) ?_ ?_; rotate_left; (intro w'; go_simp; with_reducible rfl); rotate_left; exact xE
        refine pure_ (i := 10) (N := some 254) (v := ?_) (a' := ?_) x10a55 rfl rfl (any_of HT_.out (by kernel_rfl)) (fun _ _ _ h => h) (Or.inl ⟨by rfl, ?_⟩) ?_ ?_; rotate_left; (intro w'; go_simp; with_reducible rfl); rotate_left; exact xE
        refine pure_ (i := 11) (N := some 255) (v := ?_) (a' := ?_) x10a56 rfl rfl (any_of HT_.out (by kernel_rfl)) (fun _ _ _ h => h) (Or.inl ⟨by rfl, ?_⟩) ?_ ?_; rotate_left; (intro w'; go_simp; with_reducible rfl); rotate_left; exact xE
        refine pure_ (i := 12) (N := some 256) (v := ?_) (a' := ?_) x10a57 rfl rfl (any_of HT_.out (by kernel_rfl)) (fun _ _ _ h => h) (Or.inl ⟨by rfl, ?_⟩) ?_ ?_; rotate_left; (intro w'; go_simp; with_reducible rfl); rotate_left; exact xE
        refine pure_ (i := 14) (N := some 258) (v := ?_) (a' := ?_) x10a58 rfl rfl (any_of HT_.out (by kernel_rfl)) (fun _ _ _ h => h) (Or.inl ⟨by rfl, ?_⟩) ?_ ?_; rotate_left; (intro w'; go_simp; with_reducible rfl); rotate_left; exact xE
        refine pure_ (i := 16) (N := some 260) (v := ?_) (a' := ?_) x10a59 rfl rfl (any_of HT_.out (by kernel_rfl)) (fun _ _ _ h => h) (Or.inl ⟨by rfl, ?_⟩) ?_ ?_; rotate_left; (intro w'; go_simp; with_reducible rfl); rotate_left; exact xE
        refine pure_ (i := 17) (N := some 261) (v := ?_) (a' := ?_) x10a60 rfl rfl (any_of HT_.out (by kernel_rfl)) (fun _ _ _ h => h) (Or.inl ⟨by rfl, ?_⟩) ?_ ?_; rotate_left; (intro w'; go_simp; with_reducible rfl); rotate_left; exact xE
        refine pure_ (i := 18) (N := some 262) (v := ?_) (a' := ?_) x10a61 rfl rfl (any_of HT_.out (by kernel_rfl)) (fun _ _ _ h => h) (Or.inl ⟨by rfl, ?_⟩) ?_ ?_; rotate_left; (intro w'; go_simp; with_reducible rfl); rotate_left; exact xE
        refine pure_ (i := 20) (N := some 264) (v := ?_) (a' := ?_) x10a62 rfl rfl (any_of HT_.out (by kernel_rfl)) (fun _ _ _ h => h) (Or.inl ⟨by rfl, ?_⟩) ?_ ?_; rotate_left; (intro w'; go_simp; with_reducible rfl); rotate_left; exact xE
        refine take_ (i := 13) (N := some 257) (v := ?_) (a' := ?_) x10a63 rfl rfl (take_ofW HT_.out HW_.out (by kernel_rfl)) (fun _ _ _ h => h) (Or.inl ⟨by rfl, ?_⟩) hHeld ?_ ?_
        rotate_left
        ·rintro w' ⟨s0, s1, s2⟩
         go_simp
         with_reducible rfl
        rotate_left
        ·exact xE
        refine pure_ (i := 15) (N := some 259) (v := ?_) (a' := ?_) x10a64 rfl rfl (any_of HT_.out (by kernel_rfl)) (fun _ _ _ h => h) (Or.inl ⟨by rfl, ?_⟩) ?_ ?_; rotate_left; (intro w'; go_simp; with_reducible rfl); rotate_left; exact xE
        refine take_ (i := 19) (N := some 263) (v := ?_) (a' := ?_) x10a65 rfl rfl (take_ofW HT_.out HW_.out (by kernel_rfl)) (fun _ _ _ h => h) (Or.inl ⟨by rfl, ?_⟩) hHeld ?_ ?_
        rotate_left
        ·rintro w' ⟨s0, s1, s2⟩
         go_simp
         with_reducible rfl
        rotate_left
        ·exact xE
        refine pure_ (i := 21) (N := some 265) (v := ?_) (a' := ?_) x10a66 rfl rfl (any_of HT_.out (by kernel_rfl)) (fun _ _ _ h => h) (Or.inl ⟨by rfl, ?_⟩) ?_ ?_; rotate_left; (intro w'; go_simp; with_reducible rfl); rotate_left; exact xE
        refine pure_ (i := 22) (N := some 266) (v := ?_) (a' := ?_) x10a67 rfl rfl (any_of HT_.out (by kernel_rfl)) (fun _ _ _ h => h) (Or.inl ⟨by rfl, ?_⟩) ?_ ?_; rotate_left; (intro w'; go_simp; with_reducible rfl); rotate_left; exact xE
        refine pure_ (i := 23) (N := some 267) (v := ?_) (a' := ?_) x10a68 rfl rfl (any_of HT_.out (by kernel_rfl)) (fun _ _ _ h => h) (Or.inl ⟨by rfl, ?_⟩) ?_ ?_; rotate_left; (intro w'; go_simp; with_reducible rfl); rotate_left; exact xE
        refine done_ (done_of HT_.out (by kernel_rfl)) ?_
        have p546 : 0 ≤ (x239_3 : Int) := of_decide_eq_true (by first | (with_reducible assumption) | assumption)
        have q546 : x239_3 < (t538.length : Int) := of_decide_eq_true (by first | (with_reducible assumption) | assumption)
        obtain ⟨ad546, e546, hx546_0⟩ := Kd.at_int (Kd.R_reads' HO_28.out).2.2 x239_3 p546 q546
        obtain rfl : ad544 = ad546 := (by injection e546)
        replace p546 := eq_true p546
        replace q546 := eq_true q546
        try go_wp2
        go_roundg k3
        case measure => have := HJ13.out; have := HJ55.out; have := HK3.out; omega
        case rel => exact ⟨(rd t538 x239_3), (wrap64 (x239_3 + 1)), (by first | rfl | (simp; done) | (simp [*]; done)), (by first | rfl | (simp; done) | (simp [*]; done)), H', ⟨by have := HJ13.out; have := HJ55.out; have := HK3.out; omega⟩, ⟨xR HO_19.out⟩, ⟨xR HO_28.out⟩, ⟨xR HO_237.out⟩, ⟨xB HB.out⟩⟩
   case rest => as_aux_lemma =>
    clear HC52
    obtain ⟨kq, HA, HJ51, HB⟩ := hcut
    cases kq with
    | zero => exact absurd HA.out (by simp [laws_FnStepsAdapt.j4])
    | succ kj51 =>
     have H := HA.out
     clear HA
     simp only [laws_FnStepsAdapt.j4] at H
     replace H := Option.bind_eq_some_iff.mp H
     obtain ⟨⟨t547, t548⟩, A920, H⟩ := H
     (try dsimp only at H)
     have A92 := Aside0.mk A920
     clear A920
     replace H := Option.bind_eq_some_iff.mp H
     obtain ⟨⟨t551, t552⟩, A930, H⟩ := H
     (try dsimp only at H)
     have A93 := Aside0.mk A930
     clear A930
     replace H := Option.bind_eq_some_iff.mp H
     obtain ⟨⟨t555, t556⟩, A940, H⟩ := H
     (try dsimp only at H)
     have A94 := Aside0.mk A940
     clear A940
     replace H := Option.bind_eq_some_iff.mp H
     obtain ⟨⟨t559, t560⟩, A950, H⟩ := H
     (try dsimp only at H)
     have A95 := Aside0.mk A950
     clear A950
     replace H := Option.bind_eq_some_iff.mp H
     obtain ⟨⟨t563, t564⟩, A960, H⟩ := H
     (try dsimp only at H)
     have A96 := Aside0.mk A960
     clear A960
     replace H := Option.bind_eq_some_iff.mp H
     obtain ⟨⟨t567, t568⟩, A970, H⟩ := H
     (try dsimp only at H)
     have A97 := Aside0.mk A970
     clear A970
     replace H := Option.bind_eq_some_iff.mp H
     obtain ⟨⟨t571, t572⟩, A980, H⟩ := H
     (try dsimp only at H)
     have A98 := Aside0.mk A980
     clear A980
     replace H := Option.bind_eq_some_iff.mp H
     obtain ⟨⟨t575, t576⟩, A990, H⟩ := H
     (try dsimp only at H)
     have A99 := Aside0.mk A990
     clear A990
     have HC100 := Aside0.mk H
     clear H
     go_upto_region 45 with (first | ((with_reducible refine gate_callee (f := 48) rfl ?_); refine goesL_ (some 275) rfl rfl Try.func48 (by kernel_rfl) rfl #[.slice A1 l1.length c1] rfl (by (try simp only [List.map_toArray, List.map_cons, List.map_nil]); first | done | rfl | (simp only [List.length_drop, List.length_take]; rfl)) ?_; (with_reducible refine (spec_DrawStepsOfBits.calls kj51 _ _ l1 t547 t548 _ ?side1 ?side2 A92.out).mono ?_); (case side1 => exact xC (Kd.C_below HR1.out HB.out)); (case side2 => exact HC1.out); rintro e w101 ⟨v549, rfl, ho0, hb⟩; refine ⟨_, rfl, ?_⟩; have n0_ := Aside0.mk (Kd.R_lower ho0 (below_size (xB HB.out))); have n1_ := Aside0.mk (below_step (xB HB.out) hb); clear HB; have HO550 := n0_; have HB := n1_; clear n0_ n1_; (try clear hb); (try clear hb2); (try clear hk); (try clear hi); (try clear ho0); obtain ⟨Ao102, co102, eo102⟩ := Kd.R_slice HO550.out; subst eo102) | ((with_reducible refine gate_callee (f := 49) rfl ?_); refine goesL_ (some 281) rfl rfl Try.func49 (by kernel_rfl) rfl #[.slice Ao102 t547.length co102, .int .i64 t548] rfl (by (try simp only [List.map_toArray, List.map_cons, List.map_nil]); first | done | rfl | (simp only [List.length_drop, List.length_take]; rfl)) ?_; (with_reducible refine (impl_StepsOfBits.calls kj51 _ _ t547 t548 t551 t552 _ ?side1 ?side2 A93.out).mono ?_); (case side1 => exact xC ((Kd.R_reads' HO550.out).2.2)); (case side2 => exact (Kd.R_reads' HO550.out).2.1); rintro e w103 ⟨v553, rfl, ho0, hb⟩; refine ⟨_, rfl, ?_⟩; have n0_ := Aside0.mk (Kd.R_elder' (xR HO550.out) (Kd.R_base ho0) hb); have n1_ := Aside0.mk (Kd.R_lower (Kd.R_new' ho0 (Kd.R_lt (xR HO550.out))) (below_size (xB HB.out))); have n2_ := Aside0.mk (below_step (xB HB.out) hb); clear HO550; clear HB; have HO550 := n0_; have HO554 := n1_; have HB := n2_; clear n0_ n1_ n2_; (try clear hb); (try clear hb2); (try clear hk); (try clear hi); (try clear ho0)) | ((with_reducible refine gate_callee (f := 50) rfl ?_); refine goesL_ (some 287) rfl rfl Try.func50 (by kernel_rfl) rfl #[.slice Ao102 t547.length co102, .int .i64 t548] rfl (by (try simp only [List.map_toArray, List.map_cons, List.map_nil]); first | done | rfl | (simp only [List.length_drop, List.length_take]; rfl)) ?_; (with_reducible refine (spec_StepsOfBits.calls kj51 _ _ t547 t548 t555 t556 _ ?side1 ?side2 A94.out).mono ?_); (case side1 => exact xC ((Kd.R_reads' HO550.out).2.2)); (case side2 => exact (Kd.R_reads' HO550.out).2.1); rintro e w104 ⟨v557, rfl, ho0, hb⟩; refine ⟨_, rfl, ?_⟩; have n0_ := Aside0.mk (Kd.R_elder' (xR HO550.out) (Kd.R_base ho0) hb); have n1_ := Aside0.mk (Kd.R_elder' (xR HO554.out) (Kd.R_base ho0) hb); have n2_ := Aside0.mk (Kd.R_lower (Kd.R_new' (Kd.R_new' ho0 (Kd.R_lt (xR HO550.out))) (Kd.R_lt (xR HO554.out))) (below_size (xB HB.out))); have n3_ := Aside0.mk (below_step (xB HB.out) hb); clear HO550; clear HO554; clear HB; have HO550 := n0_; have HO554 := n1_; have HO558 := n2_; have HB := n3_; clear n0_ n1_ n2_ n3_; (try clear hb); (try clear hb2); (try clear hk); (try clear hi); (try clear ho0)) | ((with_reducible refine gate_callee (f := 45) rfl ?_); refine goesL_ (some 293) rfl rfl Try.func45 (by kernel_rfl) rfl #[.slice Ao102 t547.length co102, .int .i64 t548] rfl (by (try simp only [List.map_toArray, List.map_cons, List.map_nil]); first | done | rfl | (simp only [List.length_drop, List.length_take]; rfl)) ?_; (with_reducible refine (impl_StepValues.calls kj51 _ _ t547 t548 t559 t560 _ ?side1 ?side2 A95.out).mono ?_); (case side1 => exact xC ((Kd.R_reads' HO550.out).2.2)); (case side2 => exact (Kd.R_reads' HO550.out).2.1); rintro e w105 ⟨v561, rfl, ho0, hb⟩; refine ⟨_, rfl, ?_⟩; have n0_ := Aside0.mk (Kd.R_elder' (xR HO550.out) (Kd.R_base ho0) hb); have n1_ := Aside0.mk (Kd.R_elder' (xR HO554.out) (Kd.R_base ho0) hb); have n2_ := Aside0.mk (Kd.R_elder' (xR HO558.out) (Kd.R_base ho0) hb); have n3_ := Aside0.mk (Kd.R_lower (Kd.R_new' (Kd.R_new' (Kd.R_new' ho0 (Kd.R_lt (xR HO550.out))) (Kd.R_lt (xR HO554.out))) (Kd.R_lt (xR HO558.out))) (below_size (xB HB.out))); have n4_ := Aside0.mk (below_step (xB HB.out) hb); clear HO550; clear HO554; clear HO558; clear HB; have HO550 := n0_; have HO554 := n1_; have HO558 := n2_; have HO562 := n3_; have HB := n4_; clear n0_ n1_ n2_ n3_ n4_; (try clear hb); (try clear hb2); (try clear hk); (try clear hi); (try clear ho0)) | ((with_reducible refine gate_callee (f := 51) rfl ?_); refine goesL_ (some 299) rfl rfl Try.func51 (by kernel_rfl) rfl #[.slice Ao102 t547.length co102, .int .i64 t548] rfl (by (try simp only [List.map_toArray, List.map_cons, List.map_nil]); first | done | rfl | (simp only [List.length_drop, List.length_take]; rfl)) ?_; (with_reducible refine (spec_StepValues.calls kj51 _ _ t547 t548 t563 t564 _ ?side1 ?side2 A96.out).mono ?_); (case side1 => exact xC ((Kd.R_reads' HO550.out).2.2)); (case side2 => exact (Kd.R_reads' HO550.out).2.1); rintro e w106 ⟨v565, rfl, ho0, hb⟩; refine ⟨_, rfl, ?_⟩; have n0_ := Aside0.mk (Kd.R_elder' (xR HO550.out) (Kd.R_base ho0) hb); have n1_ := Aside0.mk (Kd.R_elder' (xR HO554.out) (Kd.R_base ho0) hb); have n2_ := Aside0.mk (Kd.R_elder' (xR HO558.out) (Kd.R_base ho0) hb); have n3_ := Aside0.mk (Kd.R_elder' (xR HO562.out) (Kd.R_base ho0) hb); have n4_ := Aside0.mk (Kd.R_lower (Kd.R_new' (Kd.R_new' (Kd.R_new' (Kd.R_new' ho0 (Kd.R_lt (xR HO550.out))) (Kd.R_lt (xR HO554.out))) (Kd.R_lt (xR HO558.out))) (Kd.R_lt (xR HO562.out))) (below_size (xB HB.out))); have n5_ := Aside0.mk (below_step (xB HB.out) hb); clear HO550; clear HO554; clear HO558; clear HO562; clear HB; have HO550 := n0_; have HO554 := n1_; have HO558 := n2_; have HO562 := n3_; have HO566 := n4_; have HB := n5_; clear n0_ n1_ n2_ n3_ n4_ n5_; (try clear hb); (try clear hb2); (try clear hk); (try clear hi); (try clear ho0)) | ((with_reducible refine gate_callee (f := 52) rfl ?_); refine goesL_ (some 304) rfl rfl Try.func52 (by kernel_rfl) rfl #[.slice A1 l1.length c1] rfl (by (try simp only [List.map_toArray, List.map_cons, List.map_nil]); first | done | rfl | (simp only [List.length_drop, List.length_take]; rfl)) ?_; (with_reducible refine (spec_DrawFixedValues.calls kj51 _ _ l1 t567 t568 _ ?side1 ?side2 A97.out).mono ?_); (case side1 => exact xC (Kd.C_below HR1.out HB.out)); (case side2 => exact HC1.out); rintro e w107 ⟨v569, rfl, ho0, hb⟩; refine ⟨_, rfl, ?_⟩; have n0_ := Aside0.mk (Kd.R_elder' (xR HO550.out) (Kd.R_base ho0) hb); have n1_ := Aside0.mk (Kd.R_elder' (xR HO554.out) (Kd.R_base ho0) hb); have n2_ := Aside0.mk (Kd.R_elder' (xR HO558.out) (Kd.R_base ho0) hb); have n3_ := Aside0.mk (Kd.R_elder' (xR HO562.out) (Kd.R_base ho0) hb); have n4_ := Aside0.mk (Kd.R_elder' (xR HO566.out) (Kd.R_base ho0) hb); have n5_ := Aside0.mk (Kd.R_lower (Kd.R_new' (Kd.R_new' (Kd.R_new' (Kd.R_new' (Kd.R_new' ho0 (Kd.R_lt (xR HO550.out))) (Kd.R_lt (xR HO554.out))) (Kd.R_lt (xR HO558.out))) (Kd.R_lt (xR HO562.out))) (Kd.R_lt (xR HO566.out))) (below_size (xB HB.out))); have n6_ := Aside0.mk (below_step (xB HB.out) hb); clear HO550; clear HO554; clear HO558; clear HO562; clear HO566; clear HB; have HO550 := n0_; have HO554 := n1_; have HO558 := n2_; have HO562 := n3_; have HO566 := n4_; have HO570 := n5_; have HB := n6_; clear n0_ n1_ n2_ n3_ n4_ n5_ n6_; (try clear hb); (try clear hb2); (try clear hk); (try clear hi); (try clear ho0); obtain ⟨Ao108, co108, eo108⟩ := Kd.R_slice HO570.out; subst eo108) | ((with_reducible refine gate_callee (f := 47) rfl ?_); refine goesL_ (some 310) rfl rfl Try.func47 (by kernel_rfl) rfl #[.slice Ao108 t567.length co108, .int .i64 t568] rfl (by (try simp only [List.map_toArray, List.map_cons, List.map_nil]); first | done | rfl | (simp only [List.length_drop, List.length_take]; rfl)) ?_; (with_reducible refine (impl_FixedValues.calls kj51 _ _ t567 t568 t571 t572 _ ?side1 ?side2 A98.out).mono ?_); (case side1 => exact xC ((Kd.R_reads' HO570.out).2.2)); (case side2 => exact (Kd.R_reads' HO570.out).2.1); rintro e w109 ⟨v573, rfl, ho0, hb⟩; refine ⟨_, rfl, ?_⟩; have n0_ := Aside0.mk (Kd.R_elder' (xR HO550.out) (Kd.R_base ho0) hb); have n1_ := Aside0.mk (Kd.R_elder' (xR HO554.out) (Kd.R_base ho0) hb); have n2_ := Aside0.mk (Kd.R_elder' (xR HO558.out) (Kd.R_base ho0) hb); have n3_ := Aside0.mk (Kd.R_elder' (xR HO562.out) (Kd.R_base ho0) hb); have n4_ := Aside0.mk (Kd.R_elder' (xR HO566.out) (Kd.R_base ho0) hb); have n5_ := Aside0.mk (Kd.R_elder' (xR HO570.out) (Kd.R_base ho0) hb); have n6_ := Aside0.mk (Kd.R_lower (Kd.R_new' (Kd.R_new' (Kd.R_new' (Kd.R_new' (Kd.R_new' (Kd.R_new' ho0 (Kd.R_lt (xR HO550.out))) (Kd.R_lt (xR HO554.out))) (Kd.R_lt (xR HO558.out))) (Kd.R_lt (xR HO562.out))) (Kd.R_lt (xR HO566.out))) (Kd.R_lt (xR HO570.out))) (below_size (xB HB.out))); have n7_ := Aside0.mk (below_step (xB HB.out) hb); clear HO550; clear HO554; clear HO558; clear HO562; clear HO566; clear HO570; clear HB; have HO550 := n0_; have HO554 := n1_; have HO558 := n2_; have HO562 := n3_; have HO566 := n4_; have HO570 := n5_; have HO574 := n6_; have HB := n7_; clear n0_ n1_ n2_ n3_ n4_ n5_ n6_ n7_; (try clear hb); (try clear hb2); (try clear hk); (try clear hi); (try clear ho0)) | ((with_reducible refine gate_callee (f := 53) rfl ?_); refine goesL_ (some 316) rfl rfl Try.func53 (by kernel_rfl) rfl #[.slice Ao108 t567.length co108, .int .i64 t568] rfl (by (try simp only [List.map_toArray, List.map_cons, List.map_nil]); first | done | rfl | (simp only [List.length_drop, List.length_take]; rfl)) ?_; (with_reducible refine (spec_FixedValues.calls kj51 _ _ t567 t568 t575 t576 _ ?side1 ?side2 A99.out).mono ?_); (case side1 => exact xC ((Kd.R_reads' HO570.out).2.2)); (case side2 => exact (Kd.R_reads' HO570.out).2.1); rintro e w110 ⟨v577, rfl, ho0, hb⟩; refine ⟨_, rfl, ?_⟩; have n0_ := Aside0.mk (Kd.R_elder' (xR HO550.out) (Kd.R_base ho0) hb); have n1_ := Aside0.mk (Kd.R_elder' (xR HO554.out) (Kd.R_base ho0) hb); have n2_ := Aside0.mk (Kd.R_elder' (xR HO558.out) (Kd.R_base ho0) hb); have n3_ := Aside0.mk (Kd.R_elder' (xR HO562.out) (Kd.R_base ho0) hb); have n4_ := Aside0.mk (Kd.R_elder' (xR HO566.out) (Kd.R_base ho0) hb); have n5_ := Aside0.mk (Kd.R_elder' (xR HO570.out) (Kd.R_base ho0) hb); have n6_ := Aside0.mk (Kd.R_elder' (xR HO574.out) (Kd.R_base ho0) hb); have n7_ := Aside0.mk (Kd.R_lower (Kd.R_new' (Kd.R_new' (Kd.R_new' (Kd.R_new' (Kd.R_new' (Kd.R_new' (Kd.R_new' ho0 (Kd.R_lt (xR HO550.out))) (Kd.R_lt (xR HO554.out))) (Kd.R_lt (xR HO558.out))) (Kd.R_lt (xR HO562.out))) (Kd.R_lt (xR HO566.out))) (Kd.R_lt (xR HO570.out))) (Kd.R_lt (xR HO574.out))) (below_size (xB HB.out))); have n8_ := Aside0.mk (below_step (xB HB.out) hb); clear HO550; clear HO554; clear HO558; clear HO562; clear HO566; clear HO570; clear HO574; clear HB; have HO550 := n0_; have HO554 := n1_; have HO558 := n2_; have HO562 := n3_; have HO566 := n4_; have HO570 := n5_; have HO574 := n6_; have HO578 := n7_; have HB := n8_; clear n0_ n1_ n2_ n3_ n4_ n5_ n6_ n7_ n8_; (try clear hb); (try clear hb2); (try clear hk); (try clear hi); (try clear ho0)))
     (try simp only [Act.put, List.setIfInBounds_toArray, List.set_cons_zero, List.set_cons_succ])
     go_cut [349] (fun v349 wc => ∃ (kq : Nat) (x349_99 : Bool), v349 = .bool x349_99 ∧ Aside0 (laws_FnStepsAdapt.j5 kq t547 t548 t551 t552 t559 t560 x349_99 = some r) ∧ Aside0 (kq ≤ kj51) ∧ Aside0 (Kd.R (Kd.int .i64) 3 wc w.heap.size (fun k_ => some k_ ≠ (v553 : Value).ownBlock ∧ some k_ ≠ (v561 : Value).ownBlock) (.slice Ao102 t547.length co102) t547) ∧ Aside0 (Kd.R (Kd.int .i64) 3 wc w.heap.size (fun k_ => some k_ ≠ ((.slice Ao102 t547.length co102) : Value).ownBlock ∧ some k_ ≠ (v561 : Value).ownBlock) v553 t551) ∧ Aside0 (Kd.R (Kd.int .i64) 3 wc w.heap.size (fun k_ => some k_ ≠ ((.slice Ao102 t547.length co102) : Value).ownBlock ∧ some k_ ≠ (v553 : Value).ownBlock) v561 t559) ∧ Aside0 (Below w.heap.size w wc))
     case first => as_aux_lemma =>
      have H := HC100.out
      clear HC100
      by_cases c111 : (t552 != t556) = true
      ·as_aux_lemma =>
        rw [if_pos c111] at H
        have c111b0 : (t552 != t556) = true := c111
        (try (have c111b1 : decide (t552 = t556) = false := by simpa using c111))
        (try (have c111b2 : (t552 == t556) = false := by simpa using c111))
        (try (have c111b3 : ¬ (t552 = t556) := by simpa using c111))
        clear c111
        (first | rw [c111b0] | (simp only [i64_w, i32_w]; rw [c111b0]) | skip)
        exact absurd H (by have hr_ := HRT.out; cases kj51 <;> simp [laws_FnStepsAdapt.j5, hr_])
      rw [if_neg c111] at H
      have c111b0 : (t552 != t556) = false := by simpa using c111
      (try (have c111b1 : decide (t552 = t556) = true := by simpa using c111))
      (try (have c111b2 : (t552 == t556) = true := by simpa using c111))
      clear c111
      (first | rw [c111b0] | (simp only [i64_w, i32_w]; rw [c111b0]) | skip)
      replace H := Option.bind_eq_some_iff.mp H
      obtain ⟨t579, A1120, H⟩ := H
      (try dsimp only at H)
      have A112 := Aside0.mk A1120
      clear A1120
      by_cases c113 : t579 = true
      rotate_left
      ·as_aux_lemma =>
        replace c113 := Bool.eq_false_iff.mpr c113
        subst c113
        have H1 := H
        rw [if_neg (show ¬ (false = true) by decide)] at H1
        clear H
        have H := H1
        clear H1
        exact absurd H (by have hr_ := HRT.out; cases kj51 <;> simp [laws_FnStepsAdapt.j5, hr_])
      subst c113
      have H1 := H
      rw [if_pos rfl] at H1
      clear H
      have H := H1
      clear H1
      by_cases c114 : (t560 != t564) = true
      ·as_aux_lemma =>
        rw [if_pos c114] at H
        have c114b0 : (t560 != t564) = true := c114
        (try (have c114b1 : decide (t560 = t564) = false := by simpa using c114))
        (try (have c114b2 : (t560 == t564) = false := by simpa using c114))
        (try (have c114b3 : ¬ (t560 = t564) := by simpa using c114))
        clear c114
        exact absurd H (by have hr_ := HRT.out; cases kj51 <;> simp [laws_FnStepsAdapt.j5, hr_])
      as_aux_lemma =>
       rw [if_neg c114] at H
       have c114b0 : (t560 != t564) = false := by simpa using c114
       (try (have c114b1 : decide (t560 = t564) = true := by simpa using c114))
       (try (have c114b2 : (t560 == t564) = true := by simpa using c114))
       clear c114
       replace H := Option.bind_eq_some_iff.mp H
       obtain ⟨t580, A1150, H⟩ := H
       (try dsimp only at H)
       have A115 := Aside0.mk A1150
       clear A1150
       by_cases c116 : t580 = true
       rotate_left
       ·replace c116 := Bool.eq_false_iff.mpr c116
        subst c116
        have H1 := H
        rw [if_neg (show ¬ (false = true) by decide)] at H1
        clear H
        have H := H1
        clear H1
        exact absurd H (by have hr_ := HRT.out; cases kj51 <;> simp [laws_FnStepsAdapt.j5, hr_])
       subst c116
       have H1 := H
       rw [if_pos rfl] at H1
       clear H
       have H := H1
       clear H1
       by_cases c117 : (t572 != t576) = true
       ·rw [if_pos c117] at H
        have c117b0 : (t572 != t576) = true := c117
        (try (have c117b1 : decide (t572 = t576) = false := by simpa using c117))
        (try (have c117b2 : (t572 == t576) = false := by simpa using c117))
        (try (have c117b3 : ¬ (t572 = t576) := by simpa using c117))
        clear c117
        exact absurd H (by have hr_ := HRT.out; cases kj51 <;> simp [laws_FnStepsAdapt.j5, hr_])
       rw [if_neg c117] at H
       have c117b0 : (t572 != t576) = false := by simpa using c117
       (try (have c117b1 : decide (t572 = t576) = true := by simpa using c117))
       (try (have c117b2 : (t572 == t576) = true := by simpa using c117))
       clear c117
       replace H := Option.bind_eq_some_iff.mp H
       obtain ⟨t581, A1180, H⟩ := H
       (try dsimp only at H)
       have A118 := Aside0.mk A1180
       clear A1180
       have H' := Aside0.mk H
       clear H
       obtain ⟨Ao119, co119, eo119⟩ := Kd.R_slice HO554.out
       subst eo119
       obtain ⟨Ao120, co120, eo120⟩ := Kd.R_slice HO558.out
       subst eo120
       go_wp2_with (first | (go_at_call 44; (with_reducible refine (laws_uSame.calls kj51 _ _ t551 _ _ t555 true _ ?side1 ?side2 ?side3 ?side4 A112.out).mono ?_); (case side1 => exact xC ((Kd.R_reads' HO554.out).2.2)); (case side2 => exact (Kd.R_reads' HO554.out).2.1); (case side3 => exact xC ((Kd.R_reads' HO558.out).2.2)); (case side4 => exact (Kd.R_reads' HO558.out).2.1); rintro e w' ⟨rfl, ⟨nd, rfl⟩⟩; obtain ⟨Ao121, co121, eo121⟩ := Kd.R_slice HO562.out; subst eo121; obtain ⟨Ao122, co122, eo122⟩ := Kd.R_slice HO566.out; subst eo122) | (go_at_call 44; (with_reducible refine (laws_uSame.calls kj51 _ _ t559 _ _ t563 true _ ?side1 ?side2 ?side3 ?side4 A115.out).mono ?_); (case side1 => exact xC ((Kd.R_reads' HO562.out).2.2)); (case side2 => exact (Kd.R_reads' HO562.out).2.1); (case side3 => exact xC ((Kd.R_reads' HO566.out).2.2)); (case side4 => exact (Kd.R_reads' HO566.out).2.1); rintro e w' ⟨rfl, ⟨nd, rfl⟩⟩; obtain ⟨Ao123, co123, eo123⟩ := Kd.R_slice HO574.out; subst eo123; obtain ⟨Ao124, co124, eo124⟩ := Kd.R_slice HO578.out; subst eo124) | (go_at_call 44; (with_reducible refine (laws_uSame.calls kj51 _ _ t571 _ _ t575 t581 _ ?side1 ?side2 ?side3 ?side4 A118.out).mono ?_); (case side1 => exact xC ((Kd.R_reads' HO574.out).2.2)); (case side2 => exact (Kd.R_reads' HO574.out).2.1); (case side3 => exact xC ((Kd.R_reads' HO578.out).2.2)); (case side4 => exact (Kd.R_reads' HO578.out).2.1); rintro e w' ⟨rfl, ⟨nd, rfl⟩⟩))
       go_meet
       case rel => exact ⟨_, (!t581), (by first | rfl | (simp; done) | (simp [*]; done)), H', ⟨by have := HJ13.out; have := HJ51.out; first | omega | exact Nat.le_refl _⟩, ⟨by (with_reducible repeat (first | apply Kd.R_alloc | apply Kd.R_drewN | apply Kd.R_drew)); exact Kd.R_mono HO550.out (fun _ hk => ⟨hk.1.1.1.1.1.1.2, hk.1.1.1.1.2⟩)⟩, ⟨by (with_reducible repeat (first | apply Kd.R_alloc | apply Kd.R_drewN | apply Kd.R_drew)); exact Kd.R_mono HO554.out (fun _ hk => ⟨hk.1.1.1.1.1.1.2, hk.1.1.1.1.2⟩)⟩, ⟨by (with_reducible repeat (first | apply Kd.R_alloc | apply Kd.R_drewN | apply Kd.R_drew)); exact Kd.R_mono HO562.out (fun _ hk => ⟨hk.1.1.1.1.1.1.2, hk.1.1.1.1.1.2⟩)⟩, ⟨xB HB.out⟩⟩
     case rest => as_aux_lemma =>
      clear HC100
      try clear c51
      obtain ⟨kq, x349_99, rfl, HA, HJ99, HO_33, HO_35, HO_39, HB⟩ := hcut
      cases kq with
      | zero => exact absurd HA.out (by simp [laws_FnStepsAdapt.j5])
      | succ kj99 =>
       have H := HA.out
       clear HA
       simp only [laws_FnStepsAdapt.j5] at H
       by_cases c125 : x349_99 = true
       ·as_aux_lemma =>
         subst c125
         have H1 := H
         rw [if_pos rfl] at H1
         clear H
         have H := H1
         clear H1
         exact absurd ((Option.some.inj H).trans HRT.out) (by decide)
       replace c125 := Bool.eq_false_iff.mpr c125
       subst c125
       have H1 := H
       rw [if_neg (show ¬ (false = true) by decide)] at H1
       clear H
       have H := H1
       clear H1
       have HC126 := Aside0.mk H
       clear H
       go_upto_if 350 with (fail)
       go_cut [] (fun wc => ∃ (kq : Nat), Aside0 (laws_FnStepsAdapt.j8 kq t547 t551 t552 t559 t560 = some r) ∧ Aside0 (kq ≤ kj99) ∧ Aside0 (Kd.R (Kd.int .i64) 3 wc w.heap.size (fun k_ => some k_ ≠ (v553 : Value).ownBlock ∧ some k_ ≠ (v561 : Value).ownBlock) (.slice Ao102 t547.length co102) t547) ∧ Aside0 (Kd.R (Kd.int .i64) 3 wc w.heap.size (fun k_ => some k_ ≠ ((.slice Ao102 t547.length co102) : Value).ownBlock ∧ some k_ ≠ (v561 : Value).ownBlock) v553 t551) ∧ Aside0 (Kd.R (Kd.int .i64) 3 wc w.heap.size (fun k_ => some k_ ≠ ((.slice Ao102 t547.length co102) : Value).ownBlock ∧ some k_ ≠ (v553 : Value).ownBlock) v561 t559) ∧ Aside0 (Below w.heap.size w wc))
       case first => as_aux_lemma =>
        have H := HC126.out
        clear HC126
        by_cases c127 : t552 = true
        rotate_left
        ·as_aux_lemma =>
          replace c127 := Bool.eq_false_iff.mpr c127
          subst c127
          have H1 := H
          rw [if_neg (show ¬ (false = true) by decide)] at H1
          clear H
          have H := H1
          clear H1
          have H' := Aside0.mk H
          clear H
          go_wp2
          go_meet
          case rel => exact ⟨_, H', ⟨by have := HJ13.out; have := HJ51.out; have := HJ99.out; first | omega | exact Nat.le_refl _⟩, ⟨xR HO_33.out⟩, ⟨xR HO_35.out⟩, ⟨xR HO_39.out⟩, ⟨xB HB.out⟩⟩
        subst c127
        have H1 := H
        rw [if_pos rfl] at H1
        clear H
        have H := H1
        clear H1
        have H' := Aside0.mk H
        clear H
        obtain ⟨Ao128, co128, eo128⟩ := Kd.R_slice HO_35.out
        subst eo128
        go_wp2
        go_loopg [353] kj99 (fun kq v353 w' => ∃ (x353_4 : Int), v353 = .int .i64 x353_4 ∧ Aside0 (laws_FnStepsAdapt.l2 kq t547 t548 t551 true t559 t560 t551 (t551.length : Int) x353_4 = some r) ∧ Aside0 (kq ≤ kj99) ∧ Aside0 (Kd.R (Kd.int .i64) 3 w' w.heap.size (fun k_ => some k_ ≠ ((.slice Ao128 t551.length co128) : Value).ownBlock ∧ some k_ ≠ (v561 : Value).ownBlock ∧ some k_ ≠ ((.slice Ao128 t551.length co128) : Value).ownBlock) (.slice Ao102 t547.length co102) t547) ∧ Aside0 (Kd.R (Kd.int .i64) 3 w' w.heap.size (fun k_ => some k_ ≠ ((.slice Ao102 t547.length co102) : Value).ownBlock ∧ some k_ ≠ (v561 : Value).ownBlock) (.slice Ao128 t551.length co128) t551) ∧ Aside0 (Kd.R (Kd.int .i64) 3 w' w.heap.size (fun k_ => some k_ ≠ ((.slice Ao102 t547.length co102) : Value).ownBlock ∧ some k_ ≠ ((.slice Ao128 t551.length co128) : Value).ownBlock ∧ some k_ ≠ ((.slice Ao128 t551.length co128) : Value).ownBlock) v561 t559) ∧ Aside0 (Kd.R (Kd.int .i64) 3 w' w.heap.size (fun k_ => some k_ ≠ ((.slice Ao102 t547.length co102) : Value).ownBlock ∧ some k_ ≠ (v561 : Value).ownBlock) (.slice Ao128 t551.length co128) t551) ∧ Aside0 (Below w.heap.size w w'))
        case atStart => exact ⟨(0), (by first | rfl | (simp; done) | (simp [*]; done)), H', ⟨Nat.le_refl _⟩, ⟨by (with_reducible repeat (first | apply Kd.R_alloc | apply Kd.R_drewN | apply Kd.R_drew)); exact Kd.R_mono HO_33.out (fun _ hk => ⟨hk.1, ⟨hk.2, hk.1⟩⟩)⟩, ⟨xR HO_35.out⟩, ⟨by (with_reducible repeat (first | apply Kd.R_alloc | apply Kd.R_drewN | apply Kd.R_drew)); exact Kd.R_mono HO_39.out (fun _ hk => ⟨hk.1, ⟨hk.2, hk.2⟩⟩)⟩, ⟨xR HO_35.out⟩, ⟨xB HB.out⟩⟩
        case round =>
         clear H'
         try clear c125
         try clear c127
         obtain ⟨x353_4, rfl, HA, HK4, HO_33, HO_35, HO_39, HO_351, HB⟩ := hrel
         cases gk with
         | zero => exact absurd HA.out (by simp [laws_FnStepsAdapt.l2])
         | succ k4 =>
          have H := HA.out
          clear HA
          simp only [laws_FnStepsAdapt.l2] at H
          by_cases c129 : x353_4 < (t551.length : Int)
          rotate_left
          ·as_aux_lemma =>
            rw [if_neg c129] at H
            have c129b0 : decide (x353_4 < (t551.length : Int)) = false := decide_eq_false c129
            clear c129
            (first | rw [c129b0] | (simp only [i64_w, i32_w]; rw [c129b0]) | skip)
            have H' := Aside0.mk H
            clear H
            go_wp2
            go_meet
            case rel => exact ⟨_, H', ⟨by have := HJ13.out; have := HJ51.out; have := HJ99.out; have := HK4.out; first | omega | exact Nat.le_refl _⟩, ⟨by (with_reducible repeat (first | apply Kd.R_alloc | apply Kd.R_drewN | apply Kd.R_drew)); exact Kd.R_mono HO_33.out (fun _ hk => ⟨hk.1, hk.2.1⟩)⟩, ⟨xR HO_35.out⟩, ⟨by (with_reducible repeat (first | apply Kd.R_alloc | apply Kd.R_drewN | apply Kd.R_drew)); exact Kd.R_mono HO_39.out (fun _ hk => ⟨hk.1, hk.2.1⟩)⟩, ⟨xB HB.out⟩⟩
          rw [if_pos c129] at H
          have c129b0 : decide (x353_4 < (t551.length : Int)) = true := decide_eq_true c129
          clear c129
          (first | rw [c129b0] | (simp only [i64_w, i32_w]; rw [c129b0]) | skip)
          by_cases c130 : 0 ≤ x353_4
          rotate_left
          ·rw [if_neg c130] at H
           exact absurd H (by simp)
          rw [if_pos c130] at H
          have c130b0 : decide (0 ≤ x353_4) = true := decide_eq_true c130
          clear c130
          by_cases c131 : x353_4 < (t551.length : Int)
          rotate_left
          ·rw [if_neg c131] at H
           exact absurd H (by simp)
          rw [if_pos c131] at H
          have c131b0 : decide (x353_4 < (t551.length : Int)) = true := decide_eq_true c131
          clear c131
          have HC132 := Aside0.mk H
          clear H
          have p582 : 0 ≤ (x353_4 : Int) := of_decide_eq_true (by first | (with_reducible assumption) | assumption)
          have q582 : x353_4 < (t551.length : Int) := of_decide_eq_true (by first | (with_reducible assumption) | assumption)
          obtain ⟨ad582, e582, hx582_0⟩ := Kd.at_int (Kd.R_reads' HO_351.out).2.2 x353_4 p582 q582
          cases e582
          replace p582 := eq_true p582
          replace q582 := eq_true q582
          go_upto_region 51 with (fail)
          go_cut [372] (fun v372 wc => ∃ (kq : Nat) (x372_131 : Bool), v372 = .bool x372_131 ∧ Aside0 (laws_FnStepsAdapt.j7 kq t547 t548 t551 true t559 t560 x353_4 (rd t551 x353_4) t551 (t551.length : Int) x353_4 x372_131 = some r) ∧ Aside0 (kq ≤ k4) ∧ Aside0 (Kd.R (Kd.int .i64) 3 wc w.heap.size (fun k_ => some k_ ≠ ((.slice (some ad582) t551.length co128) : Value).ownBlock ∧ some k_ ≠ (v561 : Value).ownBlock ∧ some k_ ≠ ((.slice (some ad582) t551.length co128) : Value).ownBlock) (.slice Ao102 t547.length co102) t547) ∧ Aside0 (Kd.R (Kd.int .i64) 3 wc w.heap.size (fun k_ => some k_ ≠ ((.slice Ao102 t547.length co102) : Value).ownBlock ∧ some k_ ≠ (v561 : Value).ownBlock) (.slice (some ad582) t551.length co128) t551) ∧ Aside0 (Kd.R (Kd.int .i64) 3 wc w.heap.size (fun k_ => some k_ ≠ ((.slice Ao102 t547.length co102) : Value).ownBlock ∧ some k_ ≠ ((.slice (some ad582) t551.length co128) : Value).ownBlock ∧ some k_ ≠ ((.slice (some ad582) t551.length co128) : Value).ownBlock) v561 t559) ∧ Aside0 (Kd.R (Kd.int .i64) 3 wc w.heap.size (fun k_ => some k_ ≠ ((.slice Ao102 t547.length co102) : Value).ownBlock ∧ some k_ ≠ (v561 : Value).ownBlock) (.slice (some ad582) t551.length co128) t551) ∧ Aside0 (Below w.heap.size w wc))
          case first => as_aux_lemma =>
           have H := HC132.out
           clear HC132
           by_cases c133 : (rd t551 x353_4) < 1
           ·rw [if_pos c133] at H
            have c133b0 : decide ((rd t551 x353_4) < 1) = true := decide_eq_true c133
            clear c133
            (first | rw [c133b0] | (simp only [i64_w, i32_w]; rw [c133b0]) | skip)
            exact absurd H (by have hr_ := HRT.out; cases k4 <;> simp [laws_FnStepsAdapt.j7, hr_])
           as_aux_lemma =>
            rw [if_neg c133] at H
            have c133b0 : decide ((rd t551 x353_4) < 1) = false := decide_eq_false c133
            clear c133
            (first | rw [c133b0] | (simp only [i64_w, i32_w]; rw [c133b0]) | skip)
            by_cases c134 : (rd t551 x353_4) > 4096
            ·rw [if_pos c134] at H
             have c134b0 : decide (4096 < (rd t551 x353_4)) = true := decide_eq_true c134
             clear c134
             exact absurd H (by have hr_ := HRT.out; cases k4 <;> simp [laws_FnStepsAdapt.j7, hr_])
            rw [if_neg c134] at H
            have c134b0 : decide (4096 < (rd t551 x353_4)) = false := decide_eq_false c134
            clear c134
            by_cases c135 : x353_4 = 0
            rotate_left
            ·rw [if_neg c135] at H
             have c135b0 : (x353_4 == 0) = false := beq_eq_false_iff_ne.mpr c135
             have c135b1 : (x353_4 != 0) = true := bne_iff_ne.mpr c135
             have H' := Aside0.mk H
             clear H
             go_wp2
             go_meet
             case rel => exact ⟨_, (false), (by first | rfl | (simp; done) | (simp [*]; done)), H', ⟨by have := HJ13.out; have := HJ51.out; have := HJ99.out; have := HK4.out; first | omega | exact Nat.le_refl _⟩, ⟨xR HO_33.out⟩, ⟨xR HO_35.out⟩, ⟨xR HO_39.out⟩, ⟨xR HO_351.out⟩, ⟨xB HB.out⟩⟩
            rw [if_pos c135] at H
            have c135b0 : (x353_4 == 0) = true := beq_iff_eq.mpr c135
            have c135b1 : (x353_4 != 0) = false := bne_eq_false_iff_eq.mpr c135
            clear c135
            have H' := Aside0.mk H
            clear H
            go_wp2
            go_meet
            case rel => exact ⟨_, (((rd t551 x353_4) != t548)), (by first | rfl | (simp; done) | (simp [*]; done)), H', ⟨by have := HJ13.out; have := HJ51.out; have := HJ99.out; have := HK4.out; first | omega | exact Nat.le_refl _⟩, ⟨xR HO_33.out⟩, ⟨xR HO_35.out⟩, ⟨xR HO_39.out⟩, ⟨xR HO_351.out⟩, ⟨xB HB.out⟩⟩
          case rest => as_aux_lemma =>
           clear HC132
           try clear c129b0
           try clear c130b0
           try clear c131b0
           try clear hx582_0
           try clear p582
           try clear q582
           obtain ⟨kq, x372_131, rfl, HA, HJ131, HO_33, HO_35, HO_39, HO_351, HB⟩ := hcut
           cases kq with
           | zero => exact absurd HA.out (by simp [laws_FnStepsAdapt.j7])
           | succ kj131 =>
            have H := HA.out
            clear HA
            simp only [laws_FnStepsAdapt.j7] at H
            by_cases c136 : x372_131 = true
            ·as_aux_lemma =>
              subst c136
              have H1 := H
              rw [if_pos rfl] at H1
              clear H
              have H := H1
              clear H1
              exact absurd ((Option.some.inj H).trans HRT.out) (by decide)
            replace c136 := Bool.eq_false_iff.mpr c136
            subst c136
            have H1 := H
            rw [if_neg (show ¬ (false = true) by decide)] at H1
            clear H
            have H := H1
            clear H1
            by_cases c137 : x353_4 = 0
            ·as_aux_lemma =>
              rw [if_pos c137] at H
              have c137b0 : (x353_4 == 0) = true := beq_iff_eq.mpr c137
              have c137b1 : (x353_4 != 0) = false := bne_eq_false_iff_eq.mpr c137
              clear c137
              have H' := Aside0.mk H
              clear H
              go_wp2
              go_roundg kj131
              case measure => have := HJ13.out; have := HJ51.out; have := HJ99.out; have := HK4.out; have := HJ131.out; omega
              case rel => exact ⟨(wrap64 (x353_4 + 1)), (by first | rfl | (simp; done) | (simp [*]; done)), H', ⟨by have := HJ13.out; have := HJ51.out; have := HJ99.out; have := HK4.out; have := HJ131.out; omega⟩, ⟨xR HO_33.out⟩, ⟨xR HO_35.out⟩, ⟨xR HO_39.out⟩, ⟨xR HO_351.out⟩, ⟨xB HB.out⟩⟩
            rw [if_neg c137] at H
            have c137b0 : (x353_4 == 0) = false := beq_eq_false_iff_ne.mpr c137
            have c137b1 : (x353_4 != 0) = true := bne_iff_ne.mpr c137
            by_cases c138 : 0 ≤ x353_4
            rotate_left
            ·rw [if_neg c138] at H
             exact absurd H (by simp)
            rw [if_pos c138] at H
            have c138b0 : decide (0 ≤ x353_4) = true := decide_eq_true c138
            clear c138
            by_cases c139 : x353_4 < (t547.length : Int)
            rotate_left
            ·rw [if_neg c139] at H
             exact absurd H (by simp)
            rw [if_pos c139] at H
            have c139b0 : decide (x353_4 < (t547.length : Int)) = true := decide_eq_true c139
            clear c139
            obtain ⟨ji140, hji140⟩ : ∃ j_ : Int, (wrap64 (x353_4 - 1)) = j_ := ⟨_, rfl⟩
            replace H : (if 0 ≤ (ji140) then (if (ji140) < (t547.length : Int) then (if (rd t547 x353_4) = (rd t547 (ji140)) then (if (ji140) < (t551.length : Int) then (if (rd t551 x353_4) = (wrap64 (2 * (rd t551 (ji140)))) then (laws_FnStepsAdapt.l2 kj131 t547 t548 t551 true t559 t560 t551 (t551.length : Int) (wrap64 (x353_4 + 1))) else (if (rd t551 x353_4) = 4096 then (laws_FnStepsAdapt.l2 kj131 t547 t548 t551 true t559 t560 t551 (t551.length : Int) (wrap64 (x353_4 + 1))) else (some false))) else (none)) else (if (ji140) < (t551.length : Int) then (if (rd t551 x353_4) = (wrap64 (Int.tdiv (rd t551 (ji140)) 2)) then (laws_FnStepsAdapt.l2 kj131 t547 t548 t551 true t559 t560 t551 (t551.length : Int) (wrap64 (x353_4 + 1))) else (if (rd t551 x353_4) = 1 then (laws_FnStepsAdapt.l2 kj131 t547 t548 t551 true t559 t560 t551 (t551.length : Int) (wrap64 (x353_4 + 1))) else (some false))) else (none))) else (none)) else (none)) = some r := by first | (rw [hji140] at H; exact H) | (simp only [hji140] at H ⊢; exact H)
            have hji140w : (IntKind.i64.wrap (x353_4 - 1)) = ji140 := (i64_w _).trans hji140
            by_cases c141 : 0 ≤ (ji140)
            rotate_left
            ·rw [if_neg c141] at H
             exact absurd H (by simp)
            rw [if_pos c141] at H
            have c141b0 : decide (0 ≤ (ji140)) = true := decide_eq_true c141
            clear c141
            by_cases c142 : (ji140) < (t547.length : Int)
            rotate_left
            ·rw [if_neg c142] at H
             exact absurd H (by simp)
            rw [if_pos c142] at H
            have c142b0 : decide ((ji140) < (t547.length : Int)) = true := decide_eq_true c142
            clear c142
            by_cases c143 : (rd t547 x353_4) = (rd t547 (ji140))
            rotate_left
            ·as_aux_lemma =>
               rw [if_neg c143] at H
               have c143b0 : ((rd t547 x353_4) == (rd t547 (ji140))) = false := beq_eq_false_iff_ne.mpr c143
               have c143b1 : ((rd t547 x353_4) != (rd t547 (ji140))) = true := bne_iff_ne.mpr c143
               by_cases c149 : (ji140) < (t551.length : Int)
               rotate_left
               ·rw [if_neg c149] at H
                exact absurd H (by simp)
               rw [if_pos c149] at H
               have c149b0 : decide ((ji140) < (t551.length : Int)) = true := decide_eq_true c149
               clear c149
               by_cases c150 : (rd t551 x353_4) = (wrap64 (Int.tdiv (rd t551 (ji140)) 2))
               ·as_aux_lemma =>
                  rw [if_pos c150] at H
                  have c150b0 : ((rd t551 x353_4) == (wrap64 (Int.tdiv (rd t551 (ji140)) 2))) = true := beq_iff_eq.mpr c150
                  have c150b1 : ((rd t551 x353_4) != (wrap64 (Int.tdiv (rd t551 (ji140)) 2))) = false := bne_eq_false_iff_eq.mpr c150
                  clear c150
                  have H' := Aside0.mk H
                  clear H
                  try go_wp2
                  have n0_ := Aside0.mk (Kd.R_drew HO_33.out)
                  have n1_ := Aside0.mk (Kd.R_drew HO_35.out)
                  have n2_ := Aside0.mk (Kd.R_drew HO_39.out)
                  have n3_ := Aside0.mk (Kd.R_drew HO_351.out)
                  have n4_ := Aside0.mk (below_drew1 HB.out)
                  clear HO_33
                  clear HO_35
                  clear HO_39
                  clear HO_351
                  clear HB
                  have HO_33 := n0_
                  have HO_35 := n1_
                  have HO_39 := n2_
                  have HO_351 := n3_
                  have HB := n4_
                  clear n0_ n1_ n2_ n3_ n4_
                  have p583 : 0 ≤ (x353_4 : Int) := of_decide_eq_true (by first | (with_reducible assumption) | assumption)
                  have q583 : x353_4 < (t547.length : Int) := of_decide_eq_true (by first | (with_reducible assumption) | assumption)
                  obtain ⟨ad583, e583, hx583_0⟩ := Kd.at_int (Kd.R_reads' HO_33.out).2.2 x353_4 p583 q583
                  cases e583
                  replace p583 := eq_true p583
                  replace q583 := eq_true q583
                  have p584 : 0 ≤ ((ji140) : Int) := of_decide_eq_true (by first | (with_reducible assumption) | assumption | (rw [← hji140]; first | (with_reducible assumption) | assumption))
                  have q584 : (ji140) < (t547.length : Int) := of_decide_eq_true (by first | (with_reducible assumption) | assumption | (rw [← hji140]; first | (with_reducible assumption) | assumption))
                  obtain ⟨ad584, e584, hx584_0⟩ := Kd.at_int (Kd.R_reads' HO_33.out).2.2 (ji140) p584 q584
                  obtain rfl : ad583 = ad584 := (by injection e584)
                  replace p584 := eq_true p584
                  replace q584 := eq_true q584
                  have p590 : 0 ≤ (x353_4 : Int) := of_decide_eq_true (by first | (with_reducible assumption) | assumption)
                  have q590 : x353_4 < (t547.length : Int) := of_decide_eq_true (by first | (with_reducible assumption) | assumption)
                  obtain ⟨ad590, e590, hx590_0⟩ := Kd.at_int (Kd.R_reads' HO_33.out).2.2 x353_4 p590 q590
                  obtain rfl : ad583 = ad590 := (by injection e590)
                  replace p590 := eq_true p590
                  replace q590 := eq_true q590
                  have p591 : 0 ≤ ((ji140) : Int) := of_decide_eq_true (by first | (with_reducible assumption) | assumption | (rw [← hji140]; first | (with_reducible assumption) | assumption))
                  have q591 : (ji140) < (t547.length : Int) := of_decide_eq_true (by first | (with_reducible assumption) | assumption | (rw [← hji140]; first | (with_reducible assumption) | assumption))
                  obtain ⟨ad591, e591, hx591_0⟩ := Kd.at_int (Kd.R_reads' HO_33.out).2.2 (ji140) p591 q591
                  obtain rfl : ad583 = ad591 := (by injection e591)
                  replace p591 := eq_true p591
                  replace q591 := eq_true q591
                  have p592 : 0 ≤ ((ji140) : Int) := of_decide_eq_true (by first | (with_reducible assumption) | assumption | (rw [← hji140]; first | (with_reducible assumption) | assumption))
                  have q592 : (ji140) < (t551.length : Int) := of_decide_eq_true (by first | (with_reducible assumption) | assumption | (rw [← hji140]; first | (with_reducible assumption) | assumption))
                  obtain ⟨ad592, e592, hx592_0⟩ := Kd.at_int (Kd.R_reads' HO_35.out).2.2 (ji140) p592 q592
                  obtain rfl : ad582 = ad592 := (by injection e592)
                  replace p592 := eq_true p592
                  replace q592 := eq_true q592
                  refine start_ (n := 50) (S := fun w' => w'.cell? (ad583.add (x353_4).toNat) = some (.int .i64 (rd t547 x353_4)) ∧ w'.cell? (ad583.add ((ji140)).toNat) = some (.int .i64 (rd t547 (ji140))) ∧ w'.cell? (ad583.add (x353_4).toNat) = some (.int .i64 (rd t547 x353_4)) ∧ w'.cell? (ad583.add ((ji140)).toNat) = some (.int .i64 (rd t547 (ji140))) ∧ w'.cell? (ad582.add ((ji140)).toNat) = some (.int .i64 (rd t551 (ji140)))) (ds := []) x10a69 (by kernel_rfl) rfl rfl ⟨hx583_0, hx584_0, hx590_0, hx591_0, hx592_0⟩ (fun hHeld => ?_); refine with_tabW laws_FnStepsAdapt.tab54 laws_FnStepsAdapt.bits54 (fun HT_ HW_ => ?_)
                  generalize wc.drew = w151 at HO_33 HO_35 HO_39 HO_351 HB hx583_0 hx584_0 hx590_0 hx591_0 hx592_0 hHeld ⊢
                  refine pure_ (i := 0) (N := some 375) (v := ?_) (a' := ?_) x10a70 rfl rfl (any_of HT_.out (by kernel_rfl)) (fun _ _ _ h => h) (Or.inl ⟨by rfl, ?_⟩) ?_ ?_; rotate_left; (intro w'; go_simp; with_reducible rfl); rotate_left; exact xE
                  refine pure_ (i := 1) (N := some 376) (v := ?_) (a' := ?_) x10a71 rfl rfl (any_of HT_.out (by kernel_rfl)) (fun _ _ _ h => h) (Or.inl ⟨by rfl, ?_⟩) ?_ ?_; rotate_left; (intro w'; go_simp; with_reducible rfl); rotate_left; exact xE
                  refine pure_ (i := 2) (N := some 377) (v := ?_) (a' := ?_) x10a72 rfl rfl (any_of HT_.out (by kernel_rfl)) (fun _ _ _ h => h) (Or.inl ⟨by rfl, ?_⟩) ?_ ?_; rotate_left; (intro w'; go_simp; with_reducible rfl); rotate_left; exact xE
                  refine pure_ (i := 4) (N := some 379) (v := ?_) (a' := ?_) x10a73 rfl rfl (any_of HT_.out (by kernel_rfl)) (fun _ _ _ h => h) (Or.inl ⟨by rfl, ?_⟩) ?_ ?_; rotate_left; (intro w'; go_simp; with_reducible rfl); rotate_left; exact xE
                  refine pure_ (i := 5) (N := some 380) (v := ?_) (a' := ?_) x10a74 rfl rfl (any_of HT_.out (by kernel_rfl)) (fun _ _ _ h => h) (Or.inl ⟨by rfl, ?_⟩) ?_ ?_; rotate_left; (intro w'; go_simp; with_reducible rfl); rotate_left; exact xE
                  refine pure_ (i := 6) (N := some 381) (v := ?_) (a' := ?_) x10a75 rfl rfl (any_of HT_.out (by kernel_rfl)) (fun _ _ _ h => h) (Or.inl ⟨by rfl, ?_⟩) ?_ ?_; rotate_left; (intro w'; go_simp; with_reducible rfl); rotate_left; exact xE
                  refine pure_ (i := 7) (N := some 382) (v := ?_) (a' := ?_) x10a76 rfl rfl (any_of HT_.out (by kernel_rfl)) (fun _ _ _ h => h) (Or.inl ⟨by rfl, ?_⟩) ?_ ?_; rotate_left; (intro w'; go_simp; with_reducible rfl); rotate_left; exact xE
                  refine take_ (i := 3) (N := some 378) (v := ?_) (a' := ?_) x10a77 rfl rfl (take_ofW HT_.out HW_.out (by kernel_rfl)) (fun _ _ _ h => h) (Or.inl ⟨by rfl, ?_⟩) hHeld ?_ ?_
                  rotate_left
                  ·rintro w' ⟨s0, s1, s2, s3, s4⟩
                   go_simp
                   with_reducible rfl
                  rotate_left
                  ·exact xE
                  refine take_ (i := 8) (N := some 383) (v := ?_) (a' := ?_) x10a78 rfl rfl (take_ofW HT_.out HW_.out (by kernel_rfl)) (fun _ _ _ h => h) (Or.inl ⟨by rfl, ?_⟩) hHeld ?_ ?_
                  rotate_left
                  ·rintro w' ⟨s0, s1, s2, s3, s4⟩
                   go_simp
                   with_reducible rfl
                  rotate_left
                  ·exact xE
                  refine pure_ (i := 9) (N := some 384) (v := ?_) (a' := ?_) x10a79 rfl rfl (any_of HT_.out (by kernel_rfl)) (fun _ _ _ h => h) (Or.inl ⟨by rfl, ?_⟩) ?_ ?_; rotate_left; (intro w'; go_simp; with_reducible rfl); rotate_left; exact xE
                  refine pure_ (i := 10) (N := some 385) (v := ?_) (a' := ?_) x10a80 rfl rfl (any_of HT_.out (by kernel_rfl)) (fun _ _ _ h => h) (Or.inl ⟨by rfl, ?_⟩) ?_ ?_; rotate_left; (intro w'; go_simp; with_reducible rfl); rotate_left; exact xE
                  refine pure_ (i := 11) (N := some 386) (v := undef) (a' := ?_) x10a81 rfl rfl (any_of HT_.out (by kernel_rfl)) (fun _ _ _ h => h) (Or.inr ⟨by rfl, rfl⟩) ?_ ?_
                  rotate_left
                  ·exact xE
                  refine pure_ (i := 12) (N := some 387) (v := undef) (a' := ?_) x10a82 rfl rfl (any_of HT_.out (by kernel_rfl)) (fun _ _ _ h => h) (Or.inr ⟨by rfl, rfl⟩) ?_ ?_
                  rotate_left
                  ·exact xE
                  refine pure_ (i := 13) (N := some 388) (v := undef) (a' := ?_) x10a83 rfl rfl (any_of HT_.out (by kernel_rfl)) (fun _ _ _ h => h) (Or.inr ⟨by rfl, rfl⟩) ?_ ?_
                  rotate_left
                  ·exact xE
                  refine pure_ (i := 14) (N := some 389) (v := undef) (a' := ?_) x10a84 rfl rfl (any_of HT_.out (by kernel_rfl)) (fun _ _ _ h => h) (Or.inr ⟨by rfl, rfl⟩) ?_ ?_
                  rotate_left
                  ·exact xE
                  refine pure_ (i := 15) (N := some 390) (v := undef) (a' := ?_) x10a85 rfl rfl (any_of HT_.out (by kernel_rfl)) (fun _ _ _ h => h) (Or.inr ⟨by rfl, rfl⟩) ?_ ?_
                  rotate_left
                  ·exact xE
                  refine pure_ (i := 16) (N := some 391) (v := undef) (a' := ?_) x10a86 rfl rfl (any_of HT_.out (by kernel_rfl)) (fun _ _ _ h => h) (Or.inr ⟨by rfl, rfl⟩) ?_ ?_
                  rotate_left
                  ·exact xE
                  refine pure_ (i := 17) (N := some 392) (v := undef) (a' := ?_) x10a87 rfl rfl (any_of HT_.out (by kernel_rfl)) (fun _ _ _ h => h) (Or.inr ⟨by rfl, rfl⟩) ?_ ?_
                  rotate_left
                  ·exact xE
                  refine pure_ (i := 18) (N := some 393) (v := undef) (a' := ?_) x10a88 rfl rfl (any_of HT_.out (by kernel_rfl)) (fun _ _ _ h => h) (Or.inr ⟨by rfl, rfl⟩) ?_ ?_
                  rotate_left
                  ·exact xE
                  refine pure_ (i := 19) (N := some 394) (v := ?_) (a' := ?_) x10a89 rfl rfl (any_of HT_.out (by kernel_rfl)) (fun _ _ _ h => h) (Or.inl ⟨by rfl, ?_⟩) ?_ ?_; rotate_left; (intro w'; go_simp; with_reducible rfl); rotate_left; exact xE
                  refine pure_ (i := 20) (N := some 395) (v := ?_) (a' := ?_) x10a90 rfl rfl (any_of HT_.out (by kernel_rfl)) (fun _ _ _ h => h) (Or.inl ⟨by rfl, ?_⟩) ?_ ?_; rotate_left; (intro w'; go_simp; with_reducible rfl); rotate_left; exact xE
                  refine pure_ (i := 21) (N := some 396) (v := undef) (a' := ?_) x10a91 rfl rfl (any_of HT_.out (by kernel_rfl)) (fun _ _ _ h => h) (Or.inr ⟨by rfl, rfl⟩) ?_ ?_
                  rotate_left
                  ·exact xE
                  refine pure_ (i := 22) (N := some 397) (v := undef) (a' := ?_) x10a92 rfl rfl (any_of HT_.out (by kernel_rfl)) (fun _ _ _ h => h) (Or.inr ⟨by rfl, rfl⟩) ?_ ?_
                  rotate_left
                  ·exact xE
                  refine pure_ (i := 23) (N := some 398) (v := ?_) (a' := ?_) x10a93 rfl rfl (any_of HT_.out (by kernel_rfl)) (fun _ _ _ h => h) (Or.inl ⟨by rfl, ?_⟩) ?_ ?_; rotate_left; (intro w'; go_simp; with_reducible rfl); rotate_left; exact xE
                  refine pure_ (i := 24) (N := some 399) (v := ?_) (a' := ?_) x10a94 rfl rfl (any_of HT_.out (by kernel_rfl)) (fun _ _ _ h => h) (Or.inl ⟨by rfl, ?_⟩) ?_ ?_; rotate_left; (intro w'; go_simp; with_reducible rfl); rotate_left; exact xE
                  refine pure_ (i := 25) (N := some 400) (v := ?_) (a' := ?_) x10a95 rfl rfl (any_of HT_.out (by kernel_rfl)) (fun _ _ _ h => h) (Or.inl ⟨by rfl, ?_⟩) ?_ ?_; rotate_left; (intro w'; go_simp; with_reducible rfl); rotate_left; exact xE
                  refine pure_ (i := 26) (N := some 401) (v := ?_) (a' := ?_) x10a96 rfl rfl (any_of HT_.out (by kernel_rfl)) (fun _ _ _ h => h) (Or.inl ⟨by rfl, ?_⟩) ?_ ?_; rotate_left; (intro w'; go_simp; with_reducible rfl); rotate_left; exact xE
                  refine pure_ (i := 27) (N := some 402) (v := ?_) (a' := ?_) x10a97 rfl rfl (any_of HT_.out (by kernel_rfl)) (fun _ _ _ h => h) (Or.inl ⟨by rfl, ?_⟩) ?_ ?_; rotate_left; (intro w'; go_simp; with_reducible rfl); rotate_left; exact xE
                  refine pure_ (i := 29) (N := some 404) (v := ?_) (a' := ?_) x10a98 rfl rfl (any_of HT_.out (by kernel_rfl)) (fun _ _ _ h => h) (Or.inl ⟨by rfl, ?_⟩) ?_ ?_; rotate_left; (intro w'; go_simp; with_reducible rfl); rotate_left; exact xE
                  refine pure_ (i := 30) (N := some 405) (v := ?_) (a' := ?_) x10a99 rfl rfl (any_of HT_.out (by kernel_rfl)) (fun _ _ _ h => h) (Or.inl ⟨by rfl, ?_⟩) ?_ ?_; rotate_left; (intro w'; go_simp; with_reducible rfl); rotate_left; exact xE
                  refine pure_ (i := 31) (N := some 406) (v := ?_) (a' := ?_) x10a100 rfl rfl (any_of HT_.out (by kernel_rfl)) (fun _ _ _ h => h) (Or.inl ⟨by rfl, ?_⟩) ?_ ?_; rotate_left; (intro w'; go_simp; with_reducible rfl); rotate_left; exact xE
                  refine pure_ (i := 32) (N := some 407) (v := ?_) (a' := ?_) x10a101 rfl rfl (any_of HT_.out (by kernel_rfl)) (fun _ _ _ h => h) (Or.inl ⟨by rfl, ?_⟩) ?_ ?_; rotate_left; (intro w'; go_simp; with_reducible rfl); rotate_left; exact xE
                  refine take_ (i := 28) (N := some 403) (v := ?_) (a' := ?_) x10a102 rfl rfl (take_ofW HT_.out HW_.out (by kernel_rfl)) (fun _ _ _ h => h) (Or.inl ⟨by rfl, ?_⟩) hHeld ?_ ?_
                  rotate_left
                  ·rintro w' ⟨s0, s1, s2, s3, s4⟩
                   go_simp
                   with_reducible rfl
                  rotate_left
                  ·exact xE
                  refine take_ (i := 33) (N := some 408) (v := ?_) (a' := ?_) x10a103 rfl rfl (take_ofW HT_.out HW_.out (by kernel_rfl)) (fun _ _ _ h => h) (Or.inl ⟨by rfl, ?_⟩) hHeld ?_ ?_
                  rotate_left
                  ·rintro w' ⟨s0, s1, s2, s3, s4⟩
                   go_simp
                   with_reducible rfl
                  rotate_left
                  ·exact xE
                  refine pure_ (i := 34) (N := some 409) (v := ?_) (a' := ?_) x10a104 rfl rfl (any_of HT_.out (by kernel_rfl)) (fun _ _ _ h => h) (Or.inl ⟨by rfl, ?_⟩) ?_ ?_; rotate_left; (intro w'; go_simp; with_reducible rfl); rotate_left; exact xE
                  refine pure_ (i := 35) (N := some 410) (v := ?_) (a' := ?_) x10a105 rfl rfl (any_of HT_.out (by kernel_rfl)) (fun _ _ _ h => h) (Or.inl ⟨by rfl, ?_⟩) ?_ ?_; rotate_left; (intro w'; go_simp; with_reducible rfl); rotate_left; exact xE
                  refine pure_ (i := 36) (N := some 411) (v := ?_) (a' := ?_) x10a106 rfl rfl (any_of HT_.out (by kernel_rfl)) (fun _ _ _ h => h) (Or.inl ⟨by rfl, ?_⟩) ?_ ?_; rotate_left; (intro w'; go_simp; with_reducible rfl); rotate_left; exact xE
                  refine pure_ (i := 37) (N := some 412) (v := ?_) (a' := ?_) x10a107 rfl rfl (any_of HT_.out (by kernel_rfl)) (fun _ _ _ h => h) (Or.inl ⟨by rfl, ?_⟩) ?_ ?_; rotate_left; (intro w'; go_simp; with_reducible rfl); rotate_left; exact xE
                  refine pure_ (i := 38) (N := some 413) (v := ?_) (a' := ?_) x10a108 rfl rfl (any_of HT_.out (by kernel_rfl)) (fun _ _ _ h => h) (Or.inl ⟨by rfl, ?_⟩) ?_ ?_; rotate_left; (intro w'; go_simp; with_reducible rfl); rotate_left; exact xE
                  refine pure_ (i := 39) (N := some 414) (v := ?_) (a' := ?_) x10a109 rfl rfl (any_of HT_.out (by kernel_rfl)) (fun _ _ _ h => h) (Or.inl ⟨by rfl, ?_⟩) ?_ ?_; rotate_left; (intro w'; go_simp; with_reducible rfl); rotate_left; exact xE
                  refine pure_ (i := 40) (N := some 415) (v := ?_) (a' := ?_) x10a110 rfl rfl (any_of HT_.out (by kernel_rfl)) (fun _ _ _ h => h) (Or.inl ⟨by rfl, ?_⟩) ?_ ?_; rotate_left; (intro w'; go_simp; with_reducible rfl); rotate_left; exact xE
                  refine take_ (i := 41) (N := some 416) (v := ?_) (a' := ?_) x10a111 rfl rfl (take_ofW HT_.out HW_.out (by kernel_rfl)) (fun _ _ _ h => h) (Or.inl ⟨by rfl, ?_⟩) hHeld ?_ ?_
                  rotate_left
                  ·rintro w' ⟨s0, s1, s2, s3, s4⟩
                   go_simp
                   with_reducible rfl
                  rotate_left
                  ·exact xE
                  refine pure_ (i := 42) (N := some 417) (v := ?_) (a' := ?_) x10a112 rfl rfl (any_of HT_.out (by kernel_rfl)) (fun _ _ _ h => h) (Or.inl ⟨by rfl, ?_⟩) ?_ ?_; rotate_left; (intro w'; go_simp; with_reducible rfl); rotate_left; exact xE
                  refine pure_ (i := 43) (N := some 418) (v := ?_) (a' := ?_) x10a113 rfl rfl (any_of HT_.out (by kernel_rfl)) (fun _ _ _ h => h) (Or.inl ⟨by rfl, ?_⟩) ?_ ?_; rotate_left; (intro w'; go_simp; with_reducible rfl); rotate_left; exact xE
                  refine pure_ (i := 44) (N := some 419) (v := ?_) (a' := ?_) x10a114 rfl rfl (any_of HT_.out (by kernel_rfl)) (fun _ _ _ h => h) (Or.inl ⟨by rfl, ?_⟩) ?_ ?_; rotate_left; (intro w'; go_simp; with_reducible rfl); rotate_left; exact xE
                  refine pure_ (i := 45) (N := some 420) (v := ?_) (a' := ?_) x10a115 rfl rfl (any_of HT_.out (by kernel_rfl)) (fun _ _ _ h => h) (Or.inl ⟨by rfl, ?_⟩) ?_ ?_; rotate_left; (intro w'; go_simp; with_reducible rfl); rotate_left; exact xE
                  refine pure_ (i := 46) (N := some 421) (v := undef) (a' := ?_) x10a116 rfl rfl (any_of HT_.out (by kernel_rfl)) (fun _ _ _ h => h) (Or.inr ⟨by rfl, rfl⟩) ?_ ?_
                  rotate_left
                  ·exact xE
                  refine pure_ (i := 47) (N := some 422) (v := undef) (a' := ?_) x10a117 rfl rfl (any_of HT_.out (by kernel_rfl)) (fun _ _ _ h => h) (Or.inr ⟨by rfl, rfl⟩) ?_ ?_
                  rotate_left
                  ·exact xE
                  refine pure_ (i := 48) (N := some 423) (v := ?_) (a' := ?_) x10a118 rfl rfl (any_of HT_.out (by kernel_rfl)) (fun _ _ _ h => h) (Or.inl ⟨by rfl, ?_⟩) ?_ ?_; rotate_left; (intro w'; go_simp; with_reducible rfl); rotate_left; exact xE
                  refine pure_ (i := 49) (N := some 424) (v := ?_) (a' := ?_) x10a119 rfl rfl (any_of HT_.out (by kernel_rfl)) (fun _ _ _ h => h) (Or.inl ⟨by rfl, ?_⟩) ?_ ?_; rotate_left; (intro w'; go_simp; with_reducible rfl); rotate_left; exact xE
                  refine done_ (done_of HT_.out (by kernel_rfl)) ?_
                  try go_wp2
                  go_roundg kj131
                  case measure => have := HJ13.out; have := HJ51.out; have := HJ99.out; have := HK4.out; have := HJ131.out; omega
                  case rel => exact ⟨(wrap64 (x353_4 + 1)), (by first | rfl | (simp; done) | (simp [*]; done)), H', ⟨by have := HJ13.out; have := HJ51.out; have := HJ99.out; have := HK4.out; have := HJ131.out; omega⟩, ⟨xR HO_33.out⟩, ⟨xR HO_35.out⟩, ⟨xR HO_39.out⟩, ⟨xR HO_351.out⟩, ⟨xB HB.out⟩⟩
               rw [if_neg c150] at H
               have c150b0 : ((rd t551 x353_4) == (wrap64 (Int.tdiv (rd t551 (ji140)) 2))) = false := beq_eq_false_iff_ne.mpr c150
               have c150b1 : ((rd t551 x353_4) != (wrap64 (Int.tdiv (rd t551 (ji140)) 2))) = true := bne_iff_ne.mpr c150
               by_cases c152 : (rd t551 x353_4) = 1
               rotate_left
               ·rw [if_neg c152] at H
                have c152b0 : ((rd t551 x353_4) == 1) = false := beq_eq_false_iff_ne.mpr c152
                have c152b1 : ((rd t551 x353_4) != 1) = true := bne_iff_ne.mpr c152
                exact absurd ((Option.some.inj H).trans HRT.out) (by decide)
               rw [if_pos c152] at H
               have c152b0 : ((rd t551 x353_4) == 1) = true := beq_iff_eq.mpr c152
               have c152b1 : ((rd t551 x353_4) != 1) = false := bne_eq_false_iff_eq.mpr c152
               clear c152
               have H' := Aside0.mk H
               clear H
               try go_wp2
               have n0_ := Aside0.mk (Kd.R_drew HO_33.out)
               have n1_ := Aside0.mk (Kd.R_drew HO_35.out)
               have n2_ := Aside0.mk (Kd.R_drew HO_39.out)
               have n3_ := Aside0.mk (Kd.R_drew HO_351.out)
               have n4_ := Aside0.mk (below_drew1 HB.out)
               clear HO_33
               clear HO_35
               clear HO_39
               clear HO_351
               clear HB
               have HO_33 := n0_
               have HO_35 := n1_
               have HO_39 := n2_
               have HO_351 := n3_
               have HB := n4_
               clear n0_ n1_ n2_ n3_ n4_
               have p583 : 0 ≤ (x353_4 : Int) := of_decide_eq_true (by first | (with_reducible assumption) | assumption)
               have q583 : x353_4 < (t547.length : Int) := of_decide_eq_true (by first | (with_reducible assumption) | assumption)
               obtain ⟨ad583, e583, hx583_0⟩ := Kd.at_int (Kd.R_reads' HO_33.out).2.2 x353_4 p583 q583
               cases e583
               replace p583 := eq_true p583
               replace q583 := eq_true q583
               have p584 : 0 ≤ ((ji140) : Int) := of_decide_eq_true (by first | (with_reducible assumption) | assumption | (rw [← hji140]; first | (with_reducible assumption) | assumption))
               have q584 : (ji140) < (t547.length : Int) := of_decide_eq_true (by first | (with_reducible assumption) | assumption | (rw [← hji140]; first | (with_reducible assumption) | assumption))
               obtain ⟨ad584, e584, hx584_0⟩ := Kd.at_int (Kd.R_reads' HO_33.out).2.2 (ji140) p584 q584
               obtain rfl : ad583 = ad584 := (by injection e584)
               replace p584 := eq_true p584
               replace q584 := eq_true q584
               have p590 : 0 ≤ (x353_4 : Int) := of_decide_eq_true (by first | (with_reducible assumption) | assumption)
               have q590 : x353_4 < (t547.length : Int) := of_decide_eq_true (by first | (with_reducible assumption) | assumption)
               obtain ⟨ad590, e590, hx590_0⟩ := Kd.at_int (Kd.R_reads' HO_33.out).2.2 x353_4 p590 q590
               obtain rfl : ad583 = ad590 := (by injection e590)
               replace p590 := eq_true p590
               replace q590 := eq_true q590
               have p591 : 0 ≤ ((ji140) : Int) := of_decide_eq_true (by first | (with_reducible assumption) | assumption | (rw [← hji140]; first | (with_reducible assumption) | assumption))
               have q591 : (ji140) < (t547.length : Int) := of_decide_eq_true (by first | (with_reducible assumption) | assumption | (rw [← hji140]; first | (with_reducible assumption) | assumption))
               obtain ⟨ad591, e591, hx591_0⟩ := Kd.at_int (Kd.R_reads' HO_33.out).2.2 (ji140) p591 q591
               obtain rfl : ad583 = ad591 := (by injection e591)
               replace p591 := eq_true p591
               replace q591 := eq_true q591
               have p592 : 0 ≤ ((ji140) : Int) := of_decide_eq_true (by first | (with_reducible assumption) | assumption | (rw [← hji140]; first | (with_reducible assumption) | assumption))
               have q592 : (ji140) < (t551.length : Int) := of_decide_eq_true (by first | (with_reducible assumption) | assumption | (rw [← hji140]; first | (with_reducible assumption) | assumption))
               obtain ⟨ad592, e592, hx592_0⟩ := Kd.at_int (Kd.R_reads' HO_35.out).2.2 (ji140) p592 q592
               obtain rfl : ad582 = ad592 := (by injection e592)
               replace p592 := eq_true p592
               replace q592 := eq_true q592
               refine start_ (n := 50) (S := fun w' => w'.cell? (ad583.add (x353_4).toNat) = some (.int .i64 (rd t547 x353_4)) ∧ w'.cell? (ad583.add ((ji140)).toNat) = some (.int .i64 (rd t547 (ji140))) ∧ w'.cell? (ad583.add (x353_4).toNat) = some (.int .i64 (rd t547 x353_4)) ∧ w'.cell? (ad583.add ((ji140)).toNat) = some (.int .i64 (rd t547 (ji140))) ∧ w'.cell? (ad582.add ((ji140)).toNat) = some (.int .i64 (rd t551 (ji140)))) (ds := []) x10a69 (by kernel_rfl) rfl rfl ⟨hx583_0, hx584_0, hx590_0, hx591_0, hx592_0⟩ (fun hHeld => ?_); refine with_tabW laws_FnStepsAdapt.tab54 laws_FnStepsAdapt.bits54 (fun HT_ HW_ => ?_)
               generalize wc.drew = w153 at HO_33 HO_35 HO_39 HO_351 HB hx583_0 hx584_0 hx590_0 hx591_0 hx592_0 hHeld ⊢
               refine pure_ (i := 0) (N := some 375) (v := ?_) (a' := ?_) x10a70 rfl rfl (any_of HT_.out (by kernel_rfl)) (fun _ _ _ h => h) (Or.inl ⟨by rfl, ?_⟩) ?_ ?_; rotate_left; (intro w'; go_simp; with_reducible rfl); rotate_left; exact xE
               refine pure_ (i := 1) (N := some 376) (v := ?_) (a' := ?_) x10a71 rfl rfl (any_of HT_.out (by kernel_rfl)) (fun _ _ _ h => h) (Or.inl ⟨by rfl, ?_⟩) ?_ ?_; rotate_left; (intro w'; go_simp; with_reducible rfl); rotate_left; exact xE
               refine pure_ (i := 2) (N := some 377) (v := ?_) (a' := ?_) x10a72 rfl rfl (any_of HT_.out (by kernel_rfl)) (fun _ _ _ h => h) (Or.inl ⟨by rfl, ?_⟩) ?_ ?_; rotate_left; (intro w'; go_simp; with_reducible rfl); rotate_left; exact xE
               refine pure_ (i := 4) (N := some 379) (v := ?_) (a' := ?_) x10a73 rfl rfl (any_of HT_.out (by kernel_rfl)) (fun _ _ _ h => h) (Or.inl ⟨by rfl, ?_⟩) ?_ ?_; rotate_left; (intro w'; go_simp; with_reducible rfl); rotate_left; exact xE
               refine pure_ (i := 5) (N := some 380) (v := ?_) (a' := ?_) x10a74 rfl rfl (any_of HT_.out (by kernel_rfl)) (fun _ _ _ h => h) (Or.inl ⟨by rfl, ?_⟩) ?_ ?_; rotate_left; (intro w'; go_simp; with_reducible rfl); rotate_left; exact xE
               refine pure_ (i := 6) (N := some 381) (v := ?_) (a' := ?_) x10a75 rfl rfl (any_of HT_.out (by kernel_rfl)) (fun _ _ _ h => h) (Or.inl ⟨by rfl, ?_⟩) ?_ ?_; rotate_left; (intro w'; go_simp; with_reducible rfl); rotate_left; exact xE
               refine pure_ (i := 7) (N := some 382) (v := ?_) (a' := ?_) x10a76 rfl rfl (any_of HT_.out (by kernel_rfl)) (fun _ _ _ h => h) (Or.inl ⟨by rfl, ?_⟩) ?_ ?_; rotate_left; (intro w'; go_simp; with_reducible rfl); rotate_left; exact xE
               refine take_ (i := 3) (N := some 378) (v := ?_) (a' := ?_) x10a77 rfl rfl (take_ofW HT_.out HW_.out (by kernel_rfl)) (fun _ _ _ h => h) (Or.inl ⟨by rfl, ?_⟩) hHeld ?_ ?_
               rotate_left
               ·rintro w' ⟨s0, s1, s2, s3, s4⟩
                go_simp
                with_reducible rfl
               rotate_left
               ·exact xE
               refine take_ (i := 8) (N := some 383) (v := ?_) (a' := ?_) x10a78 rfl rfl (take_ofW HT_.out HW_.out (by kernel_rfl)) (fun _ _ _ h => h) (Or.inl ⟨by rfl, ?_⟩) hHeld ?_ ?_
               rotate_left
               ·rintro w' ⟨s0, s1, s2, s3, s4⟩
                go_simp
                with_reducible rfl
               rotate_left
               ·exact xE
               refine pure_ (i := 9) (N := some 384) (v := ?_) (a' := ?_) x10a79 rfl rfl (any_of HT_.out (by kernel_rfl)) (fun _ _ _ h => h) (Or.inl ⟨by rfl, ?_⟩) ?_ ?_; rotate_left; (intro w'; go_simp; with_reducible rfl); rotate_left; exact xE
               refine pure_ (i := 10) (N := some 385) (v := ?_) (a' := ?_) x10a80 rfl rfl (any_of HT_.out (by kernel_rfl)) (fun _ _ _ h => h) (Or.inl ⟨by rfl, ?_⟩) ?_ ?_; rotate_left; (intro w'; go_simp; with_reducible rfl); rotate_left; exact xE
               refine pure_ (i := 11) (N := some 386) (v := undef) (a' := ?_) x10a81 rfl rfl (any_of HT_.out (by kernel_rfl)) (fun _ _ _ h => h) (Or.inr ⟨by rfl, rfl⟩) ?_ ?_
               rotate_left
               ·exact xE
               refine pure_ (i := 12) (N := some 387) (v := undef) (a' := ?_) x10a82 rfl rfl (any_of HT_.out (by kernel_rfl)) (fun _ _ _ h => h) (Or.inr ⟨by rfl, rfl⟩) ?_ ?_
               rotate_left
               ·exact xE
               refine pure_ (i := 13) (N := some 388) (v := undef) (a' := ?_) x10a83 rfl rfl (any_of HT_.out (by kernel_rfl)) (fun _ _ _ h => h) (Or.inr ⟨by rfl, rfl⟩) ?_ ?_
               rotate_left
               ·exact xE
               refine pure_ (i := 14) (N := some 389) (v := undef) (a' := ?_) x10a84 rfl rfl (any_of HT_.out (by kernel_rfl)) (fun _ _ _ h => h) (Or.inr ⟨by rfl, rfl⟩) ?_ ?_
               rotate_left
               ·exact xE
               refine pure_ (i := 15) (N := some 390) (v := undef) (a' := ?_) x10a85 rfl rfl (any_of HT_.out (by kernel_rfl)) (fun _ _ _ h => h) (Or.inr ⟨by rfl, rfl⟩) ?_ ?_
               rotate_left
               ·exact xE
               refine pure_ (i := 16) (N := some 391) (v := undef) (a' := ?_) x10a86 rfl rfl (any_of HT_.out (by kernel_rfl)) (fun _ _ _ h => h) (Or.inr ⟨by rfl, rfl⟩) ?_ ?_
               rotate_left
               ·exact xE
               refine pure_ (i := 17) (N := some 392) (v := undef) (a' := ?_) x10a87 rfl rfl (any_of HT_.out (by kernel_rfl)) (fun _ _ _ h => h) (Or.inr ⟨by rfl, rfl⟩) ?_ ?_
               rotate_left
               ·exact xE
               refine pure_ (i := 18) (N := some 393) (v := undef) (a' := ?_) x10a88 rfl rfl (any_of HT_.out (by kernel_rfl)) (fun _ _ _ h => h) (Or.inr ⟨by rfl, rfl⟩) ?_ ?_
               rotate_left
               ·exact xE
               refine pure_ (i := 19) (N := some 394) (v := ?_) (a' := ?_) x10a89 rfl rfl (any_of HT_.out (by kernel_rfl)) (fun _ _ _ h => h) (Or.inl ⟨by rfl, ?_⟩) ?_ ?_; rotate_left; (intro w'; go_simp; with_reducible rfl); rotate_left; exact xE
               refine pure_ (i := 20) (N := some 395) (v := ?_) (a' := ?_) x10a90 rfl rfl (any_of HT_.out (by kernel_rfl)) (fun _ _ _ h => h) (Or.inl ⟨by rfl, ?_⟩) ?_ ?_; rotate_left; (intro w'; go_simp; with_reducible rfl); rotate_left; exact xE
               refine pure_ (i := 21) (N := some 396) (v := undef) (a' := ?_) x10a91 rfl rfl (any_of HT_.out (by kernel_rfl)) (fun _ _ _ h => h) (Or.inr ⟨by rfl, rfl⟩) ?_ ?_
               rotate_left
               ·exact xE
               refine pure_ (i := 22) (N := some 397) (v := undef) (a' := ?_) x10a92 rfl rfl (any_of HT_.out (by kernel_rfl)) (fun _ _ _ h => h) (Or.inr ⟨by rfl, rfl⟩) ?_ ?_
               rotate_left
               ·exact xE
               refine pure_ (i := 23) (N := some 398) (v := ?_) (a' := ?_) x10a93 rfl rfl (any_of HT_.out (by kernel_rfl)) (fun _ _ _ h => h) (Or.inl ⟨by rfl, ?_⟩) ?_ ?_; rotate_left; (intro w'; go_simp; with_reducible rfl); rotate_left; exact xE
               refine pure_ (i := 24) (N := some 399) (v := ?_) (a' := ?_) x10a94 rfl rfl (any_of HT_.out (by kernel_rfl)) (fun _ _ _ h => h) (Or.inl ⟨by rfl, ?_⟩) ?_ ?_; rotate_left; (intro w'; go_simp; with_reducible rfl); rotate_left; exact xE
               refine pure_ (i := 25) (N := some 400) (v := ?_) (a' := ?_) x10a95 rfl rfl (any_of HT_.out (by kernel_rfl)) (fun _ _ _ h => h) (Or.inl ⟨by rfl, ?_⟩) ?_ ?_; rotate_left; (intro w'; go_simp; with_reducible rfl); rotate_left; exact xE
               refine pure_ (i := 26) (N := some 401) (v := ?_) (a' := ?_) x10a96 rfl rfl (any_of HT_.out (by kernel_rfl)) (fun _ _ _ h => h) (Or.inl ⟨by rfl, ?_⟩) ?_ ?_; rotate_left; (intro w'; go_simp; with_reducible rfl); rotate_left; exact xE
               refine pure_ (i := 27) (N := some 402) (v := ?_) (a' := ?_) x10a97 rfl rfl (any_of HT_.out (by kernel_rfl)) (fun _ _ _ h => h) (Or.inl ⟨by rfl, ?_⟩) ?_ ?_; rotate_left; (intro w'; go_simp; with_reducible rfl); rotate_left; exact xE
               refine pure_ (i := 29) (N := some 404) (v := ?_) (a' := ?_) x10a98 rfl rfl (any_of HT_.out (by kernel_rfl)) (fun _ _ _ h => h) (Or.inl ⟨by rfl, ?_⟩) ?_ ?_; rotate_left; (intro w'; go_simp; with_reducible rfl); rotate_left; exact xE
               refine pure_ (i := 30) (N := some 405) (v := ?_) (a' := ?_) x10a99 rfl rfl (any_of HT_.out (by kernel_rfl)) (fun _ _ _ h => h) (Or.inl ⟨by rfl, ?_⟩) ?_ ?_; rotate_left; (intro w'; go_simp; with_reducible rfl); rotate_left; exact xE
               refine pure_ (i := 31) (N := some 406) (v := ?_) (a' := ?_) x10a100 rfl rfl (any_of HT_.out (by kernel_rfl)) (fun _ _ _ h => h) (Or.inl ⟨by rfl, ?_⟩) ?_ ?_; rotate_left; (intro w'; go_simp; with_reducible rfl); rotate_left; exact xE
               refine pure_ (i := 32) (N := some 407) (v := ?_) (a' := ?_) x10a101 rfl rfl (any_of HT_.out (by kernel_rfl)) (fun _ _ _ h => h) (Or.inl ⟨by rfl, ?_⟩) ?_ ?_; rotate_left; (intro w'; go_simp; with_reducible rfl); rotate_left; exact xE
               refine take_ (i := 28) (N := some 403) (v := ?_) (a' := ?_) x10a102 rfl rfl (take_ofW HT_.out HW_.out (by kernel_rfl)) (fun _ _ _ h => h) (Or.inl ⟨by rfl, ?_⟩) hHeld ?_ ?_
               rotate_left
               ·rintro w' ⟨s0, s1, s2, s3, s4⟩
                go_simp
                with_reducible rfl
               rotate_left
               ·exact xE
               refine take_ (i := 33) (N := some 408) (v := ?_) (a' := ?_) x10a103 rfl rfl (take_ofW HT_.out HW_.out (by kernel_rfl)) (fun _ _ _ h => h) (Or.inl ⟨by rfl, ?_⟩) hHeld ?_ ?_
               rotate_left
               ·rintro w' ⟨s0, s1, s2, s3, s4⟩
                go_simp
                with_reducible rfl
               rotate_left
               ·exact xE
               refine pure_ (i := 34) (N := some 409) (v := ?_) (a' := ?_) x10a104 rfl rfl (any_of HT_.out (by kernel_rfl)) (fun _ _ _ h => h) (Or.inl ⟨by rfl, ?_⟩) ?_ ?_; rotate_left; (intro w'; go_simp; with_reducible rfl); rotate_left; exact xE
               refine pure_ (i := 35) (N := some 410) (v := ?_) (a' := ?_) x10a105 rfl rfl (any_of HT_.out (by kernel_rfl)) (fun _ _ _ h => h) (Or.inl ⟨by rfl, ?_⟩) ?_ ?_; rotate_left; (intro w'; go_simp; with_reducible rfl); rotate_left; exact xE
               refine pure_ (i := 36) (N := some 411) (v := ?_) (a' := ?_) x10a106 rfl rfl (any_of HT_.out (by kernel_rfl)) (fun _ _ _ h => h) (Or.inl ⟨by rfl, ?_⟩) ?_ ?_; rotate_left; (intro w'; go_simp; with_reducible rfl); rotate_left; exact xE
               refine pure_ (i := 37) (N := some 412) (v := ?_) (a' := ?_) x10a107 rfl rfl (any_of HT_.out (by kernel_rfl)) (fun _ _ _ h => h) (Or.inl ⟨by rfl, ?_⟩) ?_ ?_; rotate_left; (intro w'; go_simp; with_reducible rfl); rotate_left; exact xE
               refine pure_ (i := 38) (N := some 413) (v := ?_) (a' := ?_) x10a108 rfl rfl (any_of HT_.out (by kernel_rfl)) (fun _ _ _ h => h) (Or.inl ⟨by rfl, ?_⟩) ?_ ?_; rotate_left; (intro w'; go_simp; with_reducible rfl); rotate_left; exact xE
               refine pure_ (i := 39) (N := some 414) (v := ?_) (a' := ?_) x10a109 rfl rfl (any_of HT_.out (by kernel_rfl)) (fun _ _ _ h => h) (Or.inl ⟨by rfl, ?_⟩) ?_ ?_; rotate_left; (intro w'; go_simp; with_reducible rfl); rotate_left; exact xE
               refine pure_ (i := 40) (N := some 415) (v := ?_) (a' := ?_) x10a110 rfl rfl (any_of HT_.out (by kernel_rfl)) (fun _ _ _ h => h) (Or.inl ⟨by rfl, ?_⟩) ?_ ?_; rotate_left; (intro w'; go_simp; with_reducible rfl); rotate_left; exact xE
               refine take_ (i := 41) (N := some 416) (v := ?_) (a' := ?_) x10a111 rfl rfl (take_ofW HT_.out HW_.out (by kernel_rfl)) (fun _ _ _ h => h) (Or.inl ⟨by rfl, ?_⟩) hHeld ?_ ?_
               rotate_left
               ·rintro w' ⟨s0, s1, s2, s3, s4⟩
                go_simp
                with_reducible rfl
               rotate_left
               ·exact xE
               refine pure_ (i := 42) (N := some 417) (v := ?_) (a' := ?_) x10a112 rfl rfl (any_of HT_.out (by kernel_rfl)) (fun _ _ _ h => h) (Or.inl ⟨by rfl, ?_⟩) ?_ ?_; rotate_left; (intro w'; go_simp; with_reducible rfl); rotate_left; exact xE
               refine pure_ (i := 43) (N := some 418) (v := ?_) (a' := ?_) x10a113 rfl rfl (any_of HT_.out (by kernel_rfl)) (fun _ _ _ h => h) (Or.inl ⟨by rfl, ?_⟩) ?_ ?_; rotate_left; (intro w'; go_simp; with_reducible rfl); rotate_left; exact xE
               refine pure_ (i := 44) (N := some 419) (v := ?_) (a' := ?_) x10a114 rfl rfl (any_of HT_.out (by kernel_rfl)) (fun _ _ _ h => h) (Or.inl ⟨by rfl, ?_⟩) ?_ ?_; rotate_left; (intro w'; go_simp; with_reducible rfl); rotate_left; exact xE
               refine pure_ (i := 45) (N := some 420) (v := ?_) (a' := ?_) x10a115 rfl rfl (any_of HT_.out (by kernel_rfl)) (fun _ _ _ h => h) (Or.inl ⟨by rfl, ?_⟩) ?_ ?_; rotate_left; (intro w'; go_simp; with_reducible rfl); rotate_left; exact xE
               refine pure_ (i := 46) (N := some 421) (v := ?_) (a' := ?_) x10a116 rfl rfl (any_of HT_.out (by kernel_rfl)) (fun _ _ _ h => h) (Or.inl ⟨by rfl, ?_⟩) ?_ ?_; rotate_left; (intro w'; go_simp; with_reducible rfl); rotate_left; exact xE
               refine pure_ (i := 47) (N := some 422) (v := ?_) (a' := ?_) x10a117 rfl rfl (any_of HT_.out (by kernel_rfl)) (fun _ _ _ h => h) (Or.inl ⟨by rfl, ?_⟩) ?_ ?_; rotate_left; (intro w'; go_simp; with_reducible rfl); rotate_left; exact xE
               refine pure_ (i := 48) (N := some 423) (v := ?_) (a' := ?_) x10a118 rfl rfl (any_of HT_.out (by kernel_rfl)) (fun _ _ _ h => h) (Or.inl ⟨by rfl, ?_⟩) ?_ ?_; rotate_left; (intro w'; go_simp; with_reducible rfl); rotate_left; exact xE
               refine pure_ (i := 49) (N := some 424) (v := ?_) (a' := ?_) x10a119 rfl rfl (any_of HT_.out (by kernel_rfl)) (fun _ _ _ h => h) (Or.inl ⟨by rfl, ?_⟩) ?_ ?_; rotate_left; (intro w'; go_simp; with_reducible rfl); rotate_left; exact xE
               refine done_ (done_of HT_.out (by kernel_rfl)) ?_
               try go_wp2
               go_roundg kj131
               case measure => have := HJ13.out; have := HJ51.out; have := HJ99.out; have := HK4.out; have := HJ131.out; omega
               case rel => exact ⟨(wrap64 (x353_4 + 1)), (by first | rfl | (simp; done) | (simp [*]; done)), H', ⟨by have := HJ13.out; have := HJ51.out; have := HJ99.out; have := HK4.out; have := HJ131.out; omega⟩, ⟨xR HO_33.out⟩, ⟨xR HO_35.out⟩, ⟨xR HO_39.out⟩, ⟨xR HO_351.out⟩, ⟨xB HB.out⟩⟩
            rw [if_pos c143] at H
            have c143b0 : ((rd t547 x353_4) == (rd t547 (ji140))) = true := beq_iff_eq.mpr c143
            have c143b1 : ((rd t547 x353_4) != (rd t547 (ji140))) = false := bne_eq_false_iff_eq.mpr c143
            clear c143
            by_cases c144 : (ji140) < (t551.length : Int)
            rotate_left
            ·rw [if_neg c144] at H
             exact absurd H (by simp)
            rw [if_pos c144] at H
            have c144b0 : decide ((ji140) < (t551.length : Int)) = true := decide_eq_true c144
            clear c144
            by_cases c145 : (rd t551 x353_4) = (wrap64 (2 * (rd t551 (ji140))))
            ·as_aux_lemma =>
               rw [if_pos c145] at H
               have c145b0 : ((rd t551 x353_4) == (wrap64 (2 * (rd t551 (ji140))))) = true := beq_iff_eq.mpr c145
               have c145b1 : ((rd t551 x353_4) != (wrap64 (2 * (rd t551 (ji140))))) = false := bne_eq_false_iff_eq.mpr c145
               clear c145
               have H' := Aside0.mk H
               clear H
               try go_wp2
               have n0_ := Aside0.mk (Kd.R_drew HO_33.out)
               have n1_ := Aside0.mk (Kd.R_drew HO_35.out)
               have n2_ := Aside0.mk (Kd.R_drew HO_39.out)
               have n3_ := Aside0.mk (Kd.R_drew HO_351.out)
               have n4_ := Aside0.mk (below_drew1 HB.out)
               clear HO_33
               clear HO_35
               clear HO_39
               clear HO_351
               clear HB
               have HO_33 := n0_
               have HO_35 := n1_
               have HO_39 := n2_
               have HO_351 := n3_
               have HB := n4_
               clear n0_ n1_ n2_ n3_ n4_
               have p583 : 0 ≤ (x353_4 : Int) := of_decide_eq_true (by first | (with_reducible assumption) | assumption)
               have q583 : x353_4 < (t547.length : Int) := of_decide_eq_true (by first | (with_reducible assumption) | assumption)
               obtain ⟨ad583, e583, hx583_0⟩ := Kd.at_int (Kd.R_reads' HO_33.out).2.2 x353_4 p583 q583
               cases e583
               replace p583 := eq_true p583
               replace q583 := eq_true q583
               have p584 : 0 ≤ ((ji140) : Int) := of_decide_eq_true (by first | (with_reducible assumption) | assumption | (rw [← hji140]; first | (with_reducible assumption) | assumption))
               have q584 : (ji140) < (t547.length : Int) := of_decide_eq_true (by first | (with_reducible assumption) | assumption | (rw [← hji140]; first | (with_reducible assumption) | assumption))
               obtain ⟨ad584, e584, hx584_0⟩ := Kd.at_int (Kd.R_reads' HO_33.out).2.2 (ji140) p584 q584
               obtain rfl : ad583 = ad584 := (by injection e584)
               replace p584 := eq_true p584
               replace q584 := eq_true q584
               have p585 : 0 ≤ ((ji140) : Int) := of_decide_eq_true (by first | (with_reducible assumption) | assumption | (rw [← hji140]; first | (with_reducible assumption) | assumption))
               have q585 : (ji140) < (t551.length : Int) := of_decide_eq_true (by first | (with_reducible assumption) | assumption | (rw [← hji140]; first | (with_reducible assumption) | assumption))
               obtain ⟨ad585, e585, hx585_0⟩ := Kd.at_int (Kd.R_reads' HO_35.out).2.2 (ji140) p585 q585
               obtain rfl : ad582 = ad585 := (by injection e585)
               replace p585 := eq_true p585
               replace q585 := eq_true q585
               have p586 : 0 ≤ (x353_4 : Int) := of_decide_eq_true (by first | (with_reducible assumption) | assumption)
               have q586 : x353_4 < (t547.length : Int) := of_decide_eq_true (by first | (with_reducible assumption) | assumption)
               obtain ⟨ad586, e586, hx586_0⟩ := Kd.at_int (Kd.R_reads' HO_33.out).2.2 x353_4 p586 q586
               obtain rfl : ad583 = ad586 := (by injection e586)
               replace p586 := eq_true p586
               replace q586 := eq_true q586
               have p587 : 0 ≤ ((ji140) : Int) := of_decide_eq_true (by first | (with_reducible assumption) | assumption | (rw [← hji140]; first | (with_reducible assumption) | assumption))
               have q587 : (ji140) < (t547.length : Int) := of_decide_eq_true (by first | (with_reducible assumption) | assumption | (rw [← hji140]; first | (with_reducible assumption) | assumption))
               obtain ⟨ad587, e587, hx587_0⟩ := Kd.at_int (Kd.R_reads' HO_33.out).2.2 (ji140) p587 q587
               obtain rfl : ad583 = ad587 := (by injection e587)
               replace p587 := eq_true p587
               replace q587 := eq_true q587
               refine start_ (n := 50) (S := fun w' => w'.cell? (ad583.add (x353_4).toNat) = some (.int .i64 (rd t547 x353_4)) ∧ w'.cell? (ad583.add ((ji140)).toNat) = some (.int .i64 (rd t547 (ji140))) ∧ w'.cell? (ad582.add ((ji140)).toNat) = some (.int .i64 (rd t551 (ji140))) ∧ w'.cell? (ad583.add (x353_4).toNat) = some (.int .i64 (rd t547 x353_4)) ∧ w'.cell? (ad583.add ((ji140)).toNat) = some (.int .i64 (rd t547 (ji140)))) (ds := []) x10a69 (by kernel_rfl) rfl rfl ⟨hx583_0, hx584_0, hx585_0, hx586_0, hx587_0⟩ (fun hHeld => ?_); refine with_tabW laws_FnStepsAdapt.tab54 laws_FnStepsAdapt.bits54 (fun HT_ HW_ => ?_)
               generalize wc.drew = w146 at HO_33 HO_35 HO_39 HO_351 HB hx583_0 hx584_0 hx585_0 hx586_0 hx587_0 hHeld ⊢
               refine pure_ (i := 0) (N := some 375) (v := ?_) (a' := ?_) x10a70 rfl rfl (any_of HT_.out (by kernel_rfl)) (fun _ _ _ h => h) (Or.inl ⟨by rfl, ?_⟩) ?_ ?_; rotate_left; (intro w'; go_simp; with_reducible rfl); rotate_left; exact xE
               refine pure_ (i := 1) (N := some 376) (v := ?_) (a' := ?_) x10a71 rfl rfl (any_of HT_.out (by kernel_rfl)) (fun _ _ _ h => h) (Or.inl ⟨by rfl, ?_⟩) ?_ ?_; rotate_left; (intro w'; go_simp; with_reducible rfl); rotate_left; exact xE
               refine pure_ (i := 2) (N := some 377) (v := ?_) (a' := ?_) x10a72 rfl rfl (any_of HT_.out (by kernel_rfl)) (fun _ _ _ h => h) (Or.inl ⟨by rfl, ?_⟩) ?_ ?_; rotate_left; (intro w'; go_simp; with_reducible rfl); rotate_left; exact xE
               refine pure_ (i := 4) (N := some 379) (v := ?_) (a' := ?_) x10a73 rfl rfl (any_of HT_.out (by kernel_rfl)) (fun _ _ _ h => h) (Or.inl ⟨by rfl, ?_⟩) ?_ ?_; rotate_left; (intro w'; go_simp; with_reducible rfl); rotate_left; exact xE
               refine pure_ (i := 5) (N := some 380) (v := ?_) (a' := ?_) x10a74 rfl rfl (any_of HT_.out (by kernel_rfl)) (fun _ _ _ h => h) (Or.inl ⟨by rfl, ?_⟩) ?_ ?_; rotate_left; (intro w'; go_simp; with_reducible rfl); rotate_left; exact xE
               refine pure_ (i := 6) (N := some 381) (v := ?_) (a' := ?_) x10a75 rfl rfl (any_of HT_.out (by kernel_rfl)) (fun _ _ _ h => h) (Or.inl ⟨by rfl, ?_⟩) ?_ ?_; rotate_left; (intro w'; go_simp; with_reducible rfl); rotate_left; exact xE
               refine pure_ (i := 7) (N := some 382) (v := ?_) (a' := ?_) x10a76 rfl rfl (any_of HT_.out (by kernel_rfl)) (fun _ _ _ h => h) (Or.inl ⟨by rfl, ?_⟩) ?_ ?_; rotate_left; (intro w'; go_simp; with_reducible rfl); rotate_left; exact xE
               refine take_ (i := 3) (N := some 378) (v := ?_) (a' := ?_) x10a77 rfl rfl (take_ofW HT_.out HW_.out (by kernel_rfl)) (fun _ _ _ h => h) (Or.inl ⟨by rfl, ?_⟩) hHeld ?_ ?_
               rotate_left
               ·rintro w' ⟨s0, s1, s2, s3, s4⟩
                go_simp
                with_reducible rfl
               rotate_left
               ·exact xE
               refine take_ (i := 8) (N := some 383) (v := ?_) (a' := ?_) x10a78 rfl rfl (take_ofW HT_.out HW_.out (by kernel_rfl)) (fun _ _ _ h => h) (Or.inl ⟨by rfl, ?_⟩) hHeld ?_ ?_
               rotate_left
               ·rintro w' ⟨s0, s1, s2, s3, s4⟩
                go_simp
                with_reducible rfl
               rotate_left
               ·exact xE
               refine pure_ (i := 9) (N := some 384) (v := ?_) (a' := ?_) x10a79 rfl rfl (any_of HT_.out (by kernel_rfl)) (fun _ _ _ h => h) (Or.inl ⟨by rfl, ?_⟩) ?_ ?_; rotate_left; (intro w'; go_simp; with_reducible rfl); rotate_left; exact xE
               refine pure_ (i := 10) (N := some 385) (v := ?_) (a' := ?_) x10a80 rfl rfl (any_of HT_.out (by kernel_rfl)) (fun _ _ _ h => h) (Or.inl ⟨by rfl, ?_⟩) ?_ ?_; rotate_left; (intro w'; go_simp; with_reducible rfl); rotate_left; exact xE
               refine pure_ (i := 11) (N := some 386) (v := ?_) (a' := ?_) x10a81 rfl rfl (any_of HT_.out (by kernel_rfl)) (fun _ _ _ h => h) (Or.inl ⟨by rfl, ?_⟩) ?_ ?_; rotate_left; (intro w'; go_simp; with_reducible rfl); rotate_left; exact xE
               refine pure_ (i := 12) (N := some 387) (v := ?_) (a' := ?_) x10a82 rfl rfl (any_of HT_.out (by kernel_rfl)) (fun _ _ _ h => h) (Or.inl ⟨by rfl, ?_⟩) ?_ ?_; rotate_left; (intro w'; go_simp; with_reducible rfl); rotate_left; exact xE
               refine pure_ (i := 13) (N := some 388) (v := ?_) (a' := ?_) x10a83 rfl rfl (any_of HT_.out (by kernel_rfl)) (fun _ _ _ h => h) (Or.inl ⟨by rfl, ?_⟩) ?_ ?_; rotate_left; (intro w'; go_simp; with_reducible rfl); rotate_left; exact xE
               refine pure_ (i := 14) (N := some 389) (v := ?_) (a' := ?_) x10a84 rfl rfl (any_of HT_.out (by kernel_rfl)) (fun _ _ _ h => h) (Or.inl ⟨by rfl, ?_⟩) ?_ ?_; rotate_left; (intro w'; go_simp; with_reducible rfl); rotate_left; exact xE
               refine pure_ (i := 15) (N := some 390) (v := ?_) (a' := ?_) x10a85 rfl rfl (any_of HT_.out (by kernel_rfl)) (fun _ _ _ h => h) (Or.inl ⟨by rfl, ?_⟩) ?_ ?_; rotate_left; (intro w'; go_simp; with_reducible rfl); rotate_left; exact xE
               refine take_ (i := 16) (N := some 391) (v := ?_) (a' := ?_) x10a86 rfl rfl (take_ofW HT_.out HW_.out (by kernel_rfl)) (fun _ _ _ h => h) (Or.inl ⟨by rfl, ?_⟩) hHeld ?_ ?_
               rotate_left
               ·rintro w' ⟨s0, s1, s2, s3, s4⟩
                go_simp
                with_reducible rfl
               rotate_left
               ·exact xE
               refine pure_ (i := 17) (N := some 392) (v := ?_) (a' := ?_) x10a87 rfl rfl (any_of HT_.out (by kernel_rfl)) (fun _ _ _ h => h) (Or.inl ⟨by rfl, ?_⟩) ?_ ?_; rotate_left; (intro w'; go_simp; with_reducible rfl); rotate_left; exact xE
               refine pure_ (i := 18) (N := some 393) (v := ?_) (a' := ?_) x10a88 rfl rfl (any_of HT_.out (by kernel_rfl)) (fun _ _ _ h => h) (Or.inl ⟨by rfl, ?_⟩) ?_ ?_; rotate_left; (intro w'; go_simp; with_reducible rfl); rotate_left; exact xE
               refine pure_ (i := 19) (N := some 394) (v := ?_) (a' := ?_) x10a89 rfl rfl (any_of HT_.out (by kernel_rfl)) (fun _ _ _ h => h) (Or.inl ⟨by rfl, ?_⟩) ?_ ?_; rotate_left; (intro w'; go_simp; with_reducible rfl); rotate_left; exact xE
               refine pure_ (i := 20) (N := some 395) (v := ?_) (a' := ?_) x10a90 rfl rfl (any_of HT_.out (by kernel_rfl)) (fun _ _ _ h => h) (Or.inl ⟨by rfl, ?_⟩) ?_ ?_; rotate_left; (intro w'; go_simp; with_reducible rfl); rotate_left; exact xE
               refine pure_ (i := 21) (N := some 396) (v := undef) (a' := ?_) x10a91 rfl rfl (any_of HT_.out (by kernel_rfl)) (fun _ _ _ h => h) (Or.inr ⟨by rfl, rfl⟩) ?_ ?_
               rotate_left
               ·exact xE
               refine pure_ (i := 22) (N := some 397) (v := undef) (a' := ?_) x10a92 rfl rfl (any_of HT_.out (by kernel_rfl)) (fun _ _ _ h => h) (Or.inr ⟨by rfl, rfl⟩) ?_ ?_
               rotate_left
               ·exact xE
               refine pure_ (i := 23) (N := some 398) (v := ?_) (a' := ?_) x10a93 rfl rfl (any_of HT_.out (by kernel_rfl)) (fun _ _ _ h => h) (Or.inl ⟨by rfl, ?_⟩) ?_ ?_; rotate_left; (intro w'; go_simp; with_reducible rfl); rotate_left; exact xE
               refine pure_ (i := 24) (N := some 399) (v := ?_) (a' := ?_) x10a94 rfl rfl (any_of HT_.out (by kernel_rfl)) (fun _ _ _ h => h) (Or.inl ⟨by rfl, ?_⟩) ?_ ?_; rotate_left; (intro w'; go_simp; with_reducible rfl); rotate_left; exact xE
               refine pure_ (i := 25) (N := some 400) (v := ?_) (a' := ?_) x10a95 rfl rfl (any_of HT_.out (by kernel_rfl)) (fun _ _ _ h => h) (Or.inl ⟨by rfl, ?_⟩) ?_ ?_; rotate_left; (intro w'; go_simp; with_reducible rfl); rotate_left; exact xE
               refine pure_ (i := 26) (N := some 401) (v := ?_) (a' := ?_) x10a96 rfl rfl (any_of HT_.out (by kernel_rfl)) (fun _ _ _ h => h) (Or.inl ⟨by rfl, ?_⟩) ?_ ?_; rotate_left; (intro w'; go_simp; with_reducible rfl); rotate_left; exact xE
               refine pure_ (i := 27) (N := some 402) (v := ?_) (a' := ?_) x10a97 rfl rfl (any_of HT_.out (by kernel_rfl)) (fun _ _ _ h => h) (Or.inl ⟨by rfl, ?_⟩) ?_ ?_; rotate_left; (intro w'; go_simp; with_reducible rfl); rotate_left; exact xE
               refine pure_ (i := 29) (N := some 404) (v := ?_) (a' := ?_) x10a98 rfl rfl (any_of HT_.out (by kernel_rfl)) (fun _ _ _ h => h) (Or.inl ⟨by rfl, ?_⟩) ?_ ?_; rotate_left; (intro w'; go_simp; with_reducible rfl); rotate_left; exact xE
               refine pure_ (i := 30) (N := some 405) (v := ?_) (a' := ?_) x10a99 rfl rfl (any_of HT_.out (by kernel_rfl)) (fun _ _ _ h => h) (Or.inl ⟨by rfl, ?_⟩) ?_ ?_; rotate_left; (intro w'; go_simp; with_reducible rfl); rotate_left; exact xE
               refine pure_ (i := 31) (N := some 406) (v := ?_) (a' := ?_) x10a100 rfl rfl (any_of HT_.out (by kernel_rfl)) (fun _ _ _ h => h) (Or.inl ⟨by rfl, ?_⟩) ?_ ?_; rotate_left; (intro w'; go_simp; with_reducible rfl); rotate_left; exact xE
               refine pure_ (i := 32) (N := some 407) (v := ?_) (a' := ?_) x10a101 rfl rfl (any_of HT_.out (by kernel_rfl)) (fun _ _ _ h => h) (Or.inl ⟨by rfl, ?_⟩) ?_ ?_; rotate_left; (intro w'; go_simp; with_reducible rfl); rotate_left; exact xE
               refine take_ (i := 28) (N := some 403) (v := ?_) (a' := ?_) x10a102 rfl rfl (take_ofW HT_.out HW_.out (by kernel_rfl)) (fun _ _ _ h => h) (Or.inl ⟨by rfl, ?_⟩) hHeld ?_ ?_
               rotate_left
               ·rintro w' ⟨s0, s1, s2, s3, s4⟩
                go_simp
                with_reducible rfl
               rotate_left
               ·exact xE
               refine take_ (i := 33) (N := some 408) (v := ?_) (a' := ?_) x10a103 rfl rfl (take_ofW HT_.out HW_.out (by kernel_rfl)) (fun _ _ _ h => h) (Or.inl ⟨by rfl, ?_⟩) hHeld ?_ ?_
               rotate_left
               ·rintro w' ⟨s0, s1, s2, s3, s4⟩
                go_simp
                with_reducible rfl
               rotate_left
               ·exact xE
               refine pure_ (i := 34) (N := some 409) (v := ?_) (a' := ?_) x10a104 rfl rfl (any_of HT_.out (by kernel_rfl)) (fun _ _ _ h => h) (Or.inl ⟨by rfl, ?_⟩) ?_ ?_; rotate_left; (intro w'; go_simp; with_reducible rfl); rotate_left; exact xE
               refine pure_ (i := 35) (N := some 410) (v := ?_) (a' := ?_) x10a105 rfl rfl (any_of HT_.out (by kernel_rfl)) (fun _ _ _ h => h) (Or.inl ⟨by rfl, ?_⟩) ?_ ?_; rotate_left; (intro w'; go_simp; with_reducible rfl); rotate_left; exact xE
               refine pure_ (i := 36) (N := some 411) (v := undef) (a' := ?_) x10a106 rfl rfl (any_of HT_.out (by kernel_rfl)) (fun _ _ _ h => h) (Or.inr ⟨by rfl, rfl⟩) ?_ ?_
               rotate_left
               ·exact xE
               refine pure_ (i := 37) (N := some 412) (v := undef) (a' := ?_) x10a107 rfl rfl (any_of HT_.out (by kernel_rfl)) (fun _ _ _ h => h) (Or.inr ⟨by rfl, rfl⟩) ?_ ?_
               rotate_left
               ·exact xE
               refine pure_ (i := 38) (N := some 413) (v := undef) (a' := ?_) x10a108 rfl rfl (any_of HT_.out (by kernel_rfl)) (fun _ _ _ h => h) (Or.inr ⟨by rfl, rfl⟩) ?_ ?_
               rotate_left
               ·exact xE
               refine pure_ (i := 39) (N := some 414) (v := undef) (a' := ?_) x10a109 rfl rfl (any_of HT_.out (by kernel_rfl)) (fun _ _ _ h => h) (Or.inr ⟨by rfl, rfl⟩) ?_ ?_
               rotate_left
               ·exact xE
               refine pure_ (i := 40) (N := some 415) (v := undef) (a' := ?_) x10a110 rfl rfl (any_of HT_.out (by kernel_rfl)) (fun _ _ _ h => h) (Or.inr ⟨by rfl, rfl⟩) ?_ ?_
               rotate_left
               ·exact xE
               refine pure_ (i := 41) (N := some 416) (v := undef) (a' := ?_) x10a111 rfl rfl (any_of HT_.out (by kernel_rfl)) (fun _ _ _ h => h) (Or.inr ⟨by rfl, rfl⟩) ?_ ?_
               rotate_left
               ·exact xE
               refine pure_ (i := 42) (N := some 417) (v := undef) (a' := ?_) x10a112 rfl rfl (any_of HT_.out (by kernel_rfl)) (fun _ _ _ h => h) (Or.inr ⟨by rfl, rfl⟩) ?_ ?_
               rotate_left
               ·exact xE
               refine pure_ (i := 43) (N := some 418) (v := undef) (a' := ?_) x10a113 rfl rfl (any_of HT_.out (by kernel_rfl)) (fun _ _ _ h => h) (Or.inr ⟨by rfl, rfl⟩) ?_ ?_
               rotate_left
               ·exact xE
               refine pure_ (i := 44) (N := some 419) (v := ?_) (a' := ?_) x10a114 rfl rfl (any_of HT_.out (by kernel_rfl)) (fun _ _ _ h => h) (Or.inl ⟨by rfl, ?_⟩) ?_ ?_; rotate_left; (intro w'; go_simp; with_reducible rfl); rotate_left; exact xE
               refine pure_ (i := 45) (N := some 420) (v := ?_) (a' := ?_) x10a115 rfl rfl (any_of HT_.out (by kernel_rfl)) (fun _ _ _ h => h) (Or.inl ⟨by rfl, ?_⟩) ?_ ?_; rotate_left; (intro w'; go_simp; with_reducible rfl); rotate_left; exact xE
               refine pure_ (i := 46) (N := some 421) (v := undef) (a' := ?_) x10a116 rfl rfl (any_of HT_.out (by kernel_rfl)) (fun _ _ _ h => h) (Or.inr ⟨by rfl, rfl⟩) ?_ ?_
               rotate_left
               ·exact xE
               refine pure_ (i := 47) (N := some 422) (v := undef) (a' := ?_) x10a117 rfl rfl (any_of HT_.out (by kernel_rfl)) (fun _ _ _ h => h) (Or.inr ⟨by rfl, rfl⟩) ?_ ?_
               rotate_left
               ·exact xE
               refine pure_ (i := 48) (N := some 423) (v := ?_) (a' := ?_) x10a118 rfl rfl (any_of HT_.out (by kernel_rfl)) (fun _ _ _ h => h) (Or.inl ⟨by rfl, ?_⟩) ?_ ?_; rotate_left; (intro w'; go_simp; with_reducible rfl); rotate_left; exact xE
               refine pure_ (i := 49) (N := some 424) (v := ?_) (a' := ?_) x10a119 rfl rfl (any_of HT_.out (by kernel_rfl)) (fun _ _ _ h => h) (Or.inl ⟨by rfl, ?_⟩) ?_ ?_; rotate_left; (intro w'; go_simp; with_reducible rfl); rotate_left; exact xE
               refine done_ (done_of HT_.out (by kernel_rfl)) ?_
               try go_wp2
               go_roundg kj131
               case measure => have := HJ13.out; have := HJ51.out; have := HJ99.out; have := HK4.out; have := HJ131.out; omega
               case rel => exact ⟨(wrap64 (x353_4 + 1)), (by first | rfl | (simp; done) | (simp [*]; done)), H', ⟨by have := HJ13.out; have := HJ51.out; have := HJ99.out; have := HK4.out; have := HJ131.out; omega⟩, ⟨xR HO_33.out⟩, ⟨xR HO_35.out⟩, ⟨xR HO_39.out⟩, ⟨xR HO_351.out⟩, ⟨xB HB.out⟩⟩
            rw [if_neg c145] at H
            have c145b0 : ((rd t551 x353_4) == (wrap64 (2 * (rd t551 (ji140))))) = false := beq_eq_false_iff_ne.mpr c145
            have c145b1 : ((rd t551 x353_4) != (wrap64 (2 * (rd t551 (ji140))))) = true := bne_iff_ne.mpr c145
            by_cases c147 : (rd t551 x353_4) = 4096
            rotate_left
            ·rw [if_neg c147] at H
             have c147b0 : ((rd t551 x353_4) == 4096) = false := beq_eq_false_iff_ne.mpr c147
             have c147b1 : ((rd t551 x353_4) != 4096) = true := bne_iff_ne.mpr c147
             exact absurd ((Option.some.inj H).trans HRT.out) (by decide)
            rw [if_pos c147] at H
            have c147b0 : ((rd t551 x353_4) == 4096) = true := beq_iff_eq.mpr c147
            have c147b1 : ((rd t551 x353_4) != 4096) = false := bne_eq_false_iff_eq.mpr c147
            clear c147
            have H' := Aside0.mk H
            clear H
            try go_wp2
            have n0_ := Aside0.mk (Kd.R_drew HO_33.out)
            have n1_ := Aside0.mk (Kd.R_drew HO_35.out)
            have n2_ := Aside0.mk (Kd.R_drew HO_39.out)
            have n3_ := Aside0.mk (Kd.R_drew HO_351.out)
            have n4_ := Aside0.mk (below_drew1 HB.out)
            clear HO_33
            clear HO_35
            clear HO_39
            clear HO_351
            clear HB
            have HO_33 := n0_
            have HO_35 := n1_
            have HO_39 := n2_
            have HO_351 := n3_
            have HB := n4_
            clear n0_ n1_ n2_ n3_ n4_
            have p583 : 0 ≤ (x353_4 : Int) := of_decide_eq_true (by first | (with_reducible assumption) | assumption)
            have q583 : x353_4 < (t547.length : Int) := of_decide_eq_true (by first | (with_reducible assumption) | assumption)
            obtain ⟨ad583, e583, hx583_0⟩ := Kd.at_int (Kd.R_reads' HO_33.out).2.2 x353_4 p583 q583
            cases e583
            replace p583 := eq_true p583
            replace q583 := eq_true q583
            have p584 : 0 ≤ ((ji140) : Int) := of_decide_eq_true (by first | (with_reducible assumption) | assumption | (rw [← hji140]; first | (with_reducible assumption) | assumption))
            have q584 : (ji140) < (t547.length : Int) := of_decide_eq_true (by first | (with_reducible assumption) | assumption | (rw [← hji140]; first | (with_reducible assumption) | assumption))
            obtain ⟨ad584, e584, hx584_0⟩ := Kd.at_int (Kd.R_reads' HO_33.out).2.2 (ji140) p584 q584
            obtain rfl : ad583 = ad584 := (by injection e584)
            replace p584 := eq_true p584
            replace q584 := eq_true q584
            have p585 : 0 ≤ ((ji140) : Int) := of_decide_eq_true (by first | (with_reducible assumption) | assumption | (rw [← hji140]; first | (with_reducible assumption) | assumption))
            have q585 : (ji140) < (t551.length : Int) := of_decide_eq_true (by first | (with_reducible assumption) | assumption | (rw [← hji140]; first | (with_reducible assumption) | assumption))
            obtain ⟨ad585, e585, hx585_0⟩ := Kd.at_int (Kd.R_reads' HO_35.out).2.2 (ji140) p585 q585
            obtain rfl : ad582 = ad585 := (by injection e585)
            replace p585 := eq_true p585
            replace q585 := eq_true q585
            have p588 : 0 ≤ (x353_4 : Int) := of_decide_eq_true (by first | (with_reducible assumption) | assumption)
            have q588 : x353_4 < (t547.length : Int) := of_decide_eq_true (by first | (with_reducible assumption) | assumption)
            obtain ⟨ad588, e588, hx588_0⟩ := Kd.at_int (Kd.R_reads' HO_33.out).2.2 x353_4 p588 q588
            obtain rfl : ad583 = ad588 := (by injection e588)
            replace p588 := eq_true p588
            replace q588 := eq_true q588
            have p589 : 0 ≤ ((ji140) : Int) := of_decide_eq_true (by first | (with_reducible assumption) | assumption | (rw [← hji140]; first | (with_reducible assumption) | assumption))
            have q589 : (ji140) < (t547.length : Int) := of_decide_eq_true (by first | (with_reducible assumption) | assumption | (rw [← hji140]; first | (with_reducible assumption) | assumption))
            obtain ⟨ad589, e589, hx589_0⟩ := Kd.at_int (Kd.R_reads' HO_33.out).2.2 (ji140) p589 q589
            obtain rfl : ad583 = ad589 := (by injection e589)
            replace p589 := eq_true p589
            replace q589 := eq_true q589
            refine start_ (n := 50) (S := fun w' => w'.cell? (ad583.add (x353_4).toNat) = some (.int .i64 (rd t547 x353_4)) ∧ w'.cell? (ad583.add ((ji140)).toNat) = some (.int .i64 (rd t547 (ji140))) ∧ w'.cell? (ad582.add ((ji140)).toNat) = some (.int .i64 (rd t551 (ji140))) ∧ w'.cell? (ad583.add (x353_4).toNat) = some (.int .i64 (rd t547 x353_4)) ∧ w'.cell? (ad583.add ((ji140)).toNat) = some (.int .i64 (rd t547 (ji140)))) (ds := []) x10a69 (by kernel_rfl) rfl rfl ⟨hx583_0, hx584_0, hx585_0, hx588_0, hx589_0⟩ (fun hHeld => ?_); refine with_tabW laws_FnStepsAdapt.tab54 laws_FnStepsAdapt.bits54 (fun HT_ HW_ => ?_)
            generalize wc.drew = w148 at HO_33 HO_35 HO_39 HO_351 HB hx583_0 hx584_0 hx585_0 hx588_0 hx589_0 hHeld ⊢
            refine pure_ (i := 0) (N := some 375) (v := ?_) (a' := ?_) x10a70 rfl rfl (any_of HT_.out (by kernel_rfl)) (fun _ _ _ h => h) (Or.inl ⟨by rfl, ?_⟩) ?_ ?_; rotate_left; (intro w'; go_simp; with_reducible rfl); rotate_left; exact xE
            refine pure_ (i := 1) (N := some 376) (v := ?_) (a' := ?_) x10a71 rfl rfl (any_of HT_.out (by kernel_rfl)) (fun _ _ _ h => h) (Or.inl ⟨by rfl, ?_⟩) ?_ ?_; rotate_left; (intro w'; go_simp; with_reducible rfl); rotate_left; exact xE
            refine pure_ (i := 2) (N := some 377) (v := ?_) (a' := ?_) x10a72 rfl rfl (any_of HT_.out (by kernel_rfl)) (fun _ _ _ h => h) (Or.inl ⟨by rfl, ?_⟩) ?_ ?_; rotate_left; (intro w'; go_simp; with_reducible rfl); rotate_left; exact xE
            refine pure_ (i := 4) (N := some 379) (v := ?_) (a' := ?_) x10a73 rfl rfl (any_of HT_.out (by kernel_rfl)) (fun _ _ _ h => h) (Or.inl ⟨by rfl, ?_⟩) ?_ ?_; rotate_left; (intro w'; go_simp; with_reducible rfl); rotate_left; exact xE
            refine pure_ (i := 5) (N := some 380) (v := ?_) (a' := ?_) x10a74 rfl rfl (any_of HT_.out (by kernel_rfl)) (fun _ _ _ h => h) (Or.inl ⟨by rfl, ?_⟩) ?_ ?_; rotate_left; (intro w'; go_simp; with_reducible rfl); rotate_left; exact xE
            refine pure_ (i := 6) (N := some 381) (v := ?_) (a' := ?_) x10a75 rfl rfl (any_of HT_.out (by kernel_rfl)) (fun _ _ _ h => h) (Or.inl ⟨by rfl, ?_⟩) ?_ ?_; rotate_left; (intro w'; go_simp; with_reducible rfl); rotate_left; exact xE
            refine pure_ (i := 7) (N := some 382) (v := ?_) (a' := ?_) x10a76 rfl rfl (any_of HT_.out (by kernel_rfl)) (fun _ _ _ h => h) (Or.inl ⟨by rfl, ?_⟩) ?_ ?_; rotate_left; (intro w'; go_simp; with_reducible rfl); rotate_left; exact xE
            refine take_ (i := 3) (N := some 378) (v := ?_) (a' := ?_) x10a77 rfl rfl (take_ofW HT_.out HW_.out (by kernel_rfl)) (fun _ _ _ h => h) (Or.inl ⟨by rfl, ?_⟩) hHeld ?_ ?_
            rotate_left
            ·rintro w' ⟨s0, s1, s2, s3, s4⟩
             go_simp
             with_reducible rfl
            rotate_left
            ·exact xE
            refine take_ (i := 8) (N := some 383) (v := ?_) (a' := ?_) x10a78 rfl rfl (take_ofW HT_.out HW_.out (by kernel_rfl)) (fun _ _ _ h => h) (Or.inl ⟨by rfl, ?_⟩) hHeld ?_ ?_
            rotate_left
            ·rintro w' ⟨s0, s1, s2, s3, s4⟩
             go_simp
             with_reducible rfl
            rotate_left
            ·exact xE
            refine pure_ (i := 9) (N := some 384) (v := ?_) (a' := ?_) x10a79 rfl rfl (any_of HT_.out (by kernel_rfl)) (fun _ _ _ h => h) (Or.inl ⟨by rfl, ?_⟩) ?_ ?_; rotate_left; (intro w'; go_simp; with_reducible rfl); rotate_left; exact xE
            refine pure_ (i := 10) (N := some 385) (v := ?_) (a' := ?_) x10a80 rfl rfl (any_of HT_.out (by kernel_rfl)) (fun _ _ _ h => h) (Or.inl ⟨by rfl, ?_⟩) ?_ ?_; rotate_left; (intro w'; go_simp; with_reducible rfl); rotate_left; exact xE
            refine pure_ (i := 11) (N := some 386) (v := ?_) (a' := ?_) x10a81 rfl rfl (any_of HT_.out (by kernel_rfl)) (fun _ _ _ h => h) (Or.inl ⟨by rfl, ?_⟩) ?_ ?_; rotate_left; (intro w'; go_simp; with_reducible rfl); rotate_left; exact xE
            refine pure_ (i := 12) (N := some 387) (v := ?_) (a' := ?_) x10a82 rfl rfl (any_of HT_.out (by kernel_rfl)) (fun _ _ _ h => h) (Or.inl ⟨by rfl, ?_⟩) ?_ ?_; rotate_left; (intro w'; go_simp; with_reducible rfl); rotate_left; exact xE
            refine pure_ (i := 13) (N := some 388) (v := ?_) (a' := ?_) x10a83 rfl rfl (any_of HT_.out (by kernel_rfl)) (fun _ _ _ h => h) (Or.inl ⟨by rfl, ?_⟩) ?_ ?_; rotate_left; (intro w'; go_simp; with_reducible rfl); rotate_left; exact xE
            refine pure_ (i := 14) (N := some 389) (v := ?_) (a' := ?_) x10a84 rfl rfl (any_of HT_.out (by kernel_rfl)) (fun _ _ _ h => h) (Or.inl ⟨by rfl, ?_⟩) ?_ ?_; rotate_left; (intro w'; go_simp; with_reducible rfl); rotate_left; exact xE
            refine pure_ (i := 15) (N := some 390) (v := ?_) (a' := ?_) x10a85 rfl rfl (any_of HT_.out (by kernel_rfl)) (fun _ _ _ h => h) (Or.inl ⟨by rfl, ?_⟩) ?_ ?_; rotate_left; (intro w'; go_simp; with_reducible rfl); rotate_left; exact xE
            refine take_ (i := 16) (N := some 391) (v := ?_) (a' := ?_) x10a86 rfl rfl (take_ofW HT_.out HW_.out (by kernel_rfl)) (fun _ _ _ h => h) (Or.inl ⟨by rfl, ?_⟩) hHeld ?_ ?_
            rotate_left
            ·rintro w' ⟨s0, s1, s2, s3, s4⟩
             go_simp
             with_reducible rfl
            rotate_left
            ·exact xE
            refine pure_ (i := 17) (N := some 392) (v := ?_) (a' := ?_) x10a87 rfl rfl (any_of HT_.out (by kernel_rfl)) (fun _ _ _ h => h) (Or.inl ⟨by rfl, ?_⟩) ?_ ?_; rotate_left; (intro w'; go_simp; with_reducible rfl); rotate_left; exact xE
            refine pure_ (i := 18) (N := some 393) (v := ?_) (a' := ?_) x10a88 rfl rfl (any_of HT_.out (by kernel_rfl)) (fun _ _ _ h => h) (Or.inl ⟨by rfl, ?_⟩) ?_ ?_; rotate_left; (intro w'; go_simp; with_reducible rfl); rotate_left; exact xE
            refine pure_ (i := 19) (N := some 394) (v := ?_) (a' := ?_) x10a89 rfl rfl (any_of HT_.out (by kernel_rfl)) (fun _ _ _ h => h) (Or.inl ⟨by rfl, ?_⟩) ?_ ?_; rotate_left; (intro w'; go_simp; with_reducible rfl); rotate_left; exact xE
            refine pure_ (i := 20) (N := some 395) (v := ?_) (a' := ?_) x10a90 rfl rfl (any_of HT_.out (by kernel_rfl)) (fun _ _ _ h => h) (Or.inl ⟨by rfl, ?_⟩) ?_ ?_; rotate_left; (intro w'; go_simp; with_reducible rfl); rotate_left; exact xE
            refine pure_ (i := 21) (N := some 396) (v := ?_) (a' := ?_) x10a91 rfl rfl (any_of HT_.out (by kernel_rfl)) (fun _ _ _ h => h) (Or.inl ⟨by rfl, ?_⟩) ?_ ?_; rotate_left; (intro w'; go_simp; with_reducible rfl); rotate_left; exact xE
            refine pure_ (i := 22) (N := some 397) (v := ?_) (a' := ?_) x10a92 rfl rfl (any_of HT_.out (by kernel_rfl)) (fun _ _ _ h => h) (Or.inl ⟨by rfl, ?_⟩) ?_ ?_; rotate_left; (intro w'; go_simp; with_reducible rfl); rotate_left; exact xE
            refine pure_ (i := 23) (N := some 398) (v := ?_) (a' := ?_) x10a93 rfl rfl (any_of HT_.out (by kernel_rfl)) (fun _ _ _ h => h) (Or.inl ⟨by rfl, ?_⟩) ?_ ?_; rotate_left; (intro w'; go_simp; with_reducible rfl); rotate_left; exact xE
            refine pure_ (i := 24) (N := some 399) (v := ?_) (a' := ?_) x10a94 rfl rfl (any_of HT_.out (by kernel_rfl)) (fun _ _ _ h => h) (Or.inl ⟨by rfl, ?_⟩) ?_ ?_; rotate_left; (intro w'; go_simp; with_reducible rfl); rotate_left; exact xE
            refine pure_ (i := 25) (N := some 400) (v := ?_) (a' := ?_) x10a95 rfl rfl (any_of HT_.out (by kernel_rfl)) (fun _ _ _ h => h) (Or.inl ⟨by rfl, ?_⟩) ?_ ?_; rotate_left; (intro w'; go_simp; with_reducible rfl); rotate_left; exact xE
            refine pure_ (i := 26) (N := some 401) (v := ?_) (a' := ?_) x10a96 rfl rfl (any_of HT_.out (by kernel_rfl)) (fun _ _ _ h => h) (Or.inl ⟨by rfl, ?_⟩) ?_ ?_; rotate_left; (intro w'; go_simp; with_reducible rfl); rotate_left; exact xE
            refine pure_ (i := 27) (N := some 402) (v := ?_) (a' := ?_) x10a97 rfl rfl (any_of HT_.out (by kernel_rfl)) (fun _ _ _ h => h) (Or.inl ⟨by rfl, ?_⟩) ?_ ?_; rotate_left; (intro w'; go_simp; with_reducible rfl); rotate_left; exact xE
            refine pure_ (i := 29) (N := some 404) (v := ?_) (a' := ?_) x10a98 rfl rfl (any_of HT_.out (by kernel_rfl)) (fun _ _ _ h => h) (Or.inl ⟨by rfl, ?_⟩) ?_ ?_; rotate_left; (intro w'; go_simp; with_reducible rfl); rotate_left; exact xE
            refine pure_ (i := 30) (N := some 405) (v := ?_) (a' := ?_) x10a99 rfl rfl (any_of HT_.out (by kernel_rfl)) (fun _ _ _ h => h) (Or.inl ⟨by rfl, ?_⟩) ?_ ?_; rotate_left; (intro w'; go_simp; with_reducible rfl); rotate_left; exact xE
            refine pure_ (i := 31) (N := some 406) (v := ?_) (a' := ?_) x10a100 rfl rfl (any_of HT_.out (by kernel_rfl)) (fun _ _ _ h => h) (Or.inl ⟨by rfl, ?_⟩) ?_ ?_; rotate_left; (intro w'; go_simp; with_reducible rfl); rotate_left; exact xE
            refine pure_ (i := 32) (N := some 407) (v := ?_) (a' := ?_) x10a101 rfl rfl (any_of HT_.out (by kernel_rfl)) (fun _ _ _ h => h) (Or.inl ⟨by rfl, ?_⟩) ?_ ?_; rotate_left; (intro w'; go_simp; with_reducible rfl); rotate_left; exact xE
            refine take_ (i := 28) (N := some 403) (v := ?_) (a' := ?_) x10a102 rfl rfl (take_ofW HT_.out HW_.out (by kernel_rfl)) (fun _ _ _ h => h) (Or.inl ⟨by rfl, ?_⟩) hHeld ?_ ?_
            rotate_left
            ·rintro w' ⟨s0, s1, s2, s3, s4⟩
             go_simp
             with_reducible rfl
            rotate_left
            ·exact xE
            refine take_ (i := 33) (N := some 408) (v := ?_) (a' := ?_) x10a103 rfl rfl (take_ofW HT_.out HW_.out (by kernel_rfl)) (fun _ _ _ h => h) (Or.inl ⟨by rfl, ?_⟩) hHeld ?_ ?_
            rotate_left
            ·rintro w' ⟨s0, s1, s2, s3, s4⟩
             go_simp
             with_reducible rfl
            rotate_left
            ·exact xE
            refine pure_ (i := 34) (N := some 409) (v := ?_) (a' := ?_) x10a104 rfl rfl (any_of HT_.out (by kernel_rfl)) (fun _ _ _ h => h) (Or.inl ⟨by rfl, ?_⟩) ?_ ?_; rotate_left; (intro w'; go_simp; with_reducible rfl); rotate_left; exact xE
            refine pure_ (i := 35) (N := some 410) (v := ?_) (a' := ?_) x10a105 rfl rfl (any_of HT_.out (by kernel_rfl)) (fun _ _ _ h => h) (Or.inl ⟨by rfl, ?_⟩) ?_ ?_; rotate_left; (intro w'; go_simp; with_reducible rfl); rotate_left; exact xE
            refine pure_ (i := 36) (N := some 411) (v := undef) (a' := ?_) x10a106 rfl rfl (any_of HT_.out (by kernel_rfl)) (fun _ _ _ h => h) (Or.inr ⟨by rfl, rfl⟩) ?_ ?_
            rotate_left
            ·exact xE
            refine pure_ (i := 37) (N := some 412) (v := undef) (a' := ?_) x10a107 rfl rfl (any_of HT_.out (by kernel_rfl)) (fun _ _ _ h => h) (Or.inr ⟨by rfl, rfl⟩) ?_ ?_
            rotate_left
            ·exact xE
            refine pure_ (i := 38) (N := some 413) (v := undef) (a' := ?_) x10a108 rfl rfl (any_of HT_.out (by kernel_rfl)) (fun _ _ _ h => h) (Or.inr ⟨by rfl, rfl⟩) ?_ ?_
            rotate_left
            ·exact xE
            refine pure_ (i := 39) (N := some 414) (v := undef) (a' := ?_) x10a109 rfl rfl (any_of HT_.out (by kernel_rfl)) (fun _ _ _ h => h) (Or.inr ⟨by rfl, rfl⟩) ?_ ?_
            rotate_left
            ·exact xE
            refine pure_ (i := 40) (N := some 415) (v := undef) (a' := ?_) x10a110 rfl rfl (any_of HT_.out (by kernel_rfl)) (fun _ _ _ h => h) (Or.inr ⟨by rfl, rfl⟩) ?_ ?_
            rotate_left
            ·exact xE
            refine pure_ (i := 41) (N := some 416) (v := undef) (a' := ?_) x10a111 rfl rfl (any_of HT_.out (by kernel_rfl)) (fun _ _ _ h => h) (Or.inr ⟨by rfl, rfl⟩) ?_ ?_
            rotate_left
            ·exact xE
            refine pure_ (i := 42) (N := some 417) (v := undef) (a' := ?_) x10a112 rfl rfl (any_of HT_.out (by kernel_rfl)) (fun _ _ _ h => h) (Or.inr ⟨by rfl, rfl⟩) ?_ ?_
            rotate_left
            ·exact xE
            refine pure_ (i := 43) (N := some 418) (v := undef) (a' := ?_) x10a113 rfl rfl (any_of HT_.out (by kernel_rfl)) (fun _ _ _ h => h) (Or.inr ⟨by rfl, rfl⟩) ?_ ?_
            rotate_left
            ·exact xE
            refine pure_ (i := 44) (N := some 419) (v := ?_) (a' := ?_) x10a114 rfl rfl (any_of HT_.out (by kernel_rfl)) (fun _ _ _ h => h) (Or.inl ⟨by rfl, ?_⟩) ?_ ?_; rotate_left; (intro w'; go_simp; with_reducible rfl); rotate_left; exact xE
            refine pure_ (i := 45) (N := some 420) (v := ?_) (a' := ?_) x10a115 rfl rfl (any_of HT_.out (by kernel_rfl)) (fun _ _ _ h => h) (Or.inl ⟨by rfl, ?_⟩) ?_ ?_; rotate_left; (intro w'; go_simp; with_reducible rfl); rotate_left; exact xE
            refine pure_ (i := 46) (N := some 421) (v := undef) (a' := ?_) x10a116 rfl rfl (any_of HT_.out (by kernel_rfl)) (fun _ _ _ h => h) (Or.inr ⟨by rfl, rfl⟩) ?_ ?_
            rotate_left
            ·exact xE
            refine pure_ (i := 47) (N := some 422) (v := undef) (a' := ?_) x10a117 rfl rfl (any_of HT_.out (by kernel_rfl)) (fun _ _ _ h => h) (Or.inr ⟨by rfl, rfl⟩) ?_ ?_
            rotate_left
            ·exact xE
            refine pure_ (i := 48) (N := some 423) (v := ?_) (a' := ?_) x10a118 rfl rfl (any_of HT_.out (by kernel_rfl)) (fun _ _ _ h => h) (Or.inl ⟨by rfl, ?_⟩) ?_ ?_; rotate_left; (intro w'; go_simp; with_reducible rfl); rotate_left; exact xE
            refine pure_ (i := 49) (N := some 424) (v := ?_) (a' := ?_) x10a119 rfl rfl (any_of HT_.out (by kernel_rfl)) (fun _ _ _ h => h) (Or.inl ⟨by rfl, ?_⟩) ?_ ?_; rotate_left; (intro w'; go_simp; with_reducible rfl); rotate_left; exact xE
            refine done_ (done_of HT_.out (by kernel_rfl)) ?_
            try go_wp2
            go_roundg kj131
            case measure => have := HJ13.out; have := HJ51.out; have := HJ99.out; have := HK4.out; have := HJ131.out; omega
            case rel => exact ⟨(wrap64 (x353_4 + 1)), (by first | rfl | (simp; done) | (simp [*]; done)), H', ⟨by have := HJ13.out; have := HJ51.out; have := HJ99.out; have := HK4.out; have := HJ131.out; omega⟩, ⟨xR HO_33.out⟩, ⟨xR HO_35.out⟩, ⟨xR HO_39.out⟩, ⟨xR HO_351.out⟩, ⟨xB HB.out⟩⟩
       case rest => as_aux_lemma =>
        clear HC126
        obtain ⟨kq, HA, HJ125, HO_33, HO_35, HO_39, HB⟩ := hcut
        cases kq with
        | zero => exact absurd HA.out (by simp [laws_FnStepsAdapt.j8])
        | succ kj125 =>
         have H := HA.out
         clear HA
         simp only [laws_FnStepsAdapt.j8] at H
         have HC154 := Aside0.mk H
         clear H
         go_upto_region 57 with (fail)
         go_cut [429] (fun v429 wc => ∃ (kq : Nat) (x429_153 : Bool), v429 = .bool x429_153 ∧ Aside0 (laws_FnStepsAdapt.j9 kq t547 t551 t559 x429_153 = some r) ∧ Aside0 (kq ≤ kj125) ∧ Aside0 (Kd.R (Kd.int .i64) 3 wc w.heap.size (fun k_ => some k_ ≠ (v553 : Value).ownBlock ∧ some k_ ≠ (v561 : Value).ownBlock) (.slice Ao102 t547.length co102) t547) ∧ Aside0 (Kd.R (Kd.int .i64) 3 wc w.heap.size (fun k_ => some k_ ≠ ((.slice Ao102 t547.length co102) : Value).ownBlock ∧ some k_ ≠ (v561 : Value).ownBlock) v553 t551) ∧ Aside0 (Kd.R (Kd.int .i64) 3 wc w.heap.size (fun k_ => some k_ ≠ ((.slice Ao102 t547.length co102) : Value).ownBlock ∧ some k_ ≠ (v553 : Value).ownBlock) v561 t559) ∧ Aside0 (Below w.heap.size w wc))
         case first => as_aux_lemma =>
          have H := HC154.out
          clear HC154
          by_cases c155 : t552 = true
          ·as_aux_lemma =>
            subst c155
            have H1 := H
            rw [if_pos rfl] at H1
            clear H
            have H := H1
            clear H1
            have H' := Aside0.mk H
            clear H
            go_wp2
            go_meet
            case rel => exact ⟨_, (t560), (by first | rfl | (simp; done) | (simp [*]; done)), H', ⟨by have := HJ13.out; have := HJ51.out; have := HJ99.out; have := HJ125.out; first | omega | exact Nat.le_refl _⟩, ⟨xR HO_33.out⟩, ⟨xR HO_35.out⟩, ⟨xR HO_39.out⟩, ⟨xB HB.out⟩⟩
          as_aux_lemma =>
           replace c155 := Bool.eq_false_iff.mpr c155
           subst c155
           have H1 := H
           rw [if_neg (show ¬ (false = true) by decide)] at H1
           clear H
           have H := H1
           clear H1
           have H' := Aside0.mk H
           clear H
           go_wp2
           go_meet
           case rel => exact ⟨_, (false), (by first | rfl | (simp; done) | (simp [*]; done)), H', ⟨by have := HJ13.out; have := HJ51.out; have := HJ99.out; have := HJ125.out; first | omega | exact Nat.le_refl _⟩, ⟨xR HO_33.out⟩, ⟨xR HO_35.out⟩, ⟨xR HO_39.out⟩, ⟨xB HB.out⟩⟩
         case rest => as_aux_lemma =>
          clear HC154
          obtain ⟨kq, x429_153, rfl, HA, HJ153, HO_33, HO_35, HO_39, HB⟩ := hcut
          cases kq with
          | zero => exact absurd HA.out (by simp [laws_FnStepsAdapt.j9])
          | succ kj153 =>
           have H := HA.out
           clear HA
           simp only [laws_FnStepsAdapt.j9] at H
           by_cases c156 : x429_153 = true
           rotate_left
           ·as_aux_lemma =>
             replace c156 := Bool.eq_false_iff.mpr c156
             subst c156
             have H1 := H
             rw [if_neg (show ¬ (false = true) by decide)] at H1
             clear H
             have H := H1
             clear H1
             obtain rfl := Option.some.inj H
             go_wp2
             go_ret
             exact ⟨by first | rfl | (simp [errW_none, errW_some] <;> rfl) | (simp [*, errW_none, errW_some] <;> rfl), xB HB.out⟩

           subst c156
           have H1 := H
           rw [if_pos rfl] at H1
           clear H
           have H := H1
           clear H1
           have H' := Aside0.mk H
           clear H
           obtain ⟨Ao157, co157, eo157⟩ := Kd.R_slice HO_35.out
           subst eo157
           go_wp2
           go_loopg [51, 432] kj153 (fun kq v51 v432 w' => ∃ (x51_6 : Int) (x432_6 : Int), v51 = .int .i64 x51_6 ∧ v432 = .int .i64 x432_6 ∧ Aside0 (laws_FnStepsAdapt.l3 kq t547 t559 x51_6 t551 (t551.length : Int) x432_6 = some r) ∧ Aside0 (kq ≤ kj153) ∧ Aside0 (Kd.R (Kd.int .i64) 3 w' w.heap.size (fun k_ => some k_ ≠ (v561 : Value).ownBlock ∧ some k_ ≠ ((.slice Ao157 t551.length co157) : Value).ownBlock) (.slice Ao102 t547.length co102) t547) ∧ Aside0 (Kd.R (Kd.int .i64) 3 w' w.heap.size (fun k_ => some k_ ≠ ((.slice Ao102 t547.length co102) : Value).ownBlock ∧ some k_ ≠ ((.slice Ao157 t551.length co157) : Value).ownBlock) v561 t559) ∧ Aside0 (Kd.R (Kd.int .i64) 3 w' w.heap.size (fun k_ => some k_ ≠ ((.slice Ao102 t547.length co102) : Value).ownBlock ∧ some k_ ≠ (v561 : Value).ownBlock) (.slice Ao157 t551.length co157) t551) ∧ Aside0 (Below w.heap.size w w'))
           case atStart => exact ⟨(0), (0), (by first | rfl | (simp; done) | (simp [*]; done)), (by first | rfl | (simp; done) | (simp [*]; done)), H', ⟨Nat.le_refl _⟩, ⟨by (with_reducible repeat (first | apply Kd.R_alloc | apply Kd.R_drewN | apply Kd.R_drew)); exact Kd.R_mono HO_33.out (fun _ hk => ⟨hk.2, hk.1⟩)⟩, ⟨xR HO_39.out⟩, ⟨xR HO_35.out⟩, ⟨xB HB.out⟩⟩
           case round =>
            clear H'
            try clear c156
            obtain ⟨x51_6, x432_6, rfl, rfl, HA, HK6, HO_33, HO_39, HO_430, HB⟩ := hrel
            cases gk with
            | zero => exact absurd HA.out (by simp [laws_FnStepsAdapt.l3])
            | succ k6 =>
             have H := HA.out
             clear HA
             simp only [laws_FnStepsAdapt.l3] at H
             by_cases c158 : x432_6 < (t551.length : Int)
             rotate_left
             ·as_aux_lemma =>
               rw [if_neg c158] at H
               have c158b0 : decide (x432_6 < (t551.length : Int)) = false := decide_eq_false c158
               clear c158
               obtain rfl := Option.some.inj H
               go_wp2
               go_ret
               exact ⟨by first | rfl | (simp [errW_none, errW_some] <;> rfl) | (simp [*, errW_none, errW_some] <;> rfl), xB HB.out⟩
             rw [if_pos c158] at H
             have c158b0 : decide (x432_6 < (t551.length : Int)) = true := decide_eq_true c158
             clear c158
             by_cases c159 : 0 ≤ x432_6
             rotate_left
             ·rw [if_neg c159] at H
              exact absurd H (by simp)
             as_aux_lemma =>
              rw [if_pos c159] at H
              have c159b0 : decide (0 ≤ x432_6) = true := decide_eq_true c159
              clear c159
              by_cases c160 : x432_6 < (t551.length : Int)
              rotate_left
              ·rw [if_neg c160] at H
               exact absurd H (by simp)
              rw [if_pos c160] at H
              have c160b0 : decide (x432_6 < (t551.length : Int)) = true := decide_eq_true c160
              clear c160
              by_cases c161 : x432_6 < (t547.length : Int)
              rotate_left
              ·rw [if_neg c161] at H
               exact absurd H (by simp)
              rw [if_pos c161] at H
              have c161b0 : decide (x432_6 < (t547.length : Int)) = true := decide_eq_true c161
              clear c161
              by_cases c162 : x432_6 < (t559.length : Int)
              rotate_left
              ·rw [if_neg c162] at H
               exact absurd H (by simp)
              rw [if_pos c162] at H
              have c162b0 : decide (x432_6 < (t559.length : Int)) = true := decide_eq_true c162
              clear c162
              by_cases c163 : (rd t559 x432_6) = (wrap64 (x51_6 + (wrap64 ((rd t551 x432_6) * (rd t547 x432_6)))))
              rotate_left
              ·rw [if_neg c163] at H
               have c163b0 : ((rd t559 x432_6) == (wrap64 (x51_6 + (wrap64 ((rd t551 x432_6) * (rd t547 x432_6)))))) = false := beq_eq_false_iff_ne.mpr c163
               have c163b1 : ((rd t559 x432_6) != (wrap64 (x51_6 + (wrap64 ((rd t551 x432_6) * (rd t547 x432_6)))))) = true := bne_iff_ne.mpr c163
               exact absurd ((Option.some.inj H).trans HRT.out) (by decide)
              rw [if_pos c163] at H
              have c163b0 : ((rd t559 x432_6) == (wrap64 (x51_6 + (wrap64 ((rd t551 x432_6) * (rd t547 x432_6)))))) = true := beq_iff_eq.mpr c163
              have c163b1 : ((rd t559 x432_6) != (wrap64 (x51_6 + (wrap64 ((rd t551 x432_6) * (rd t547 x432_6)))))) = false := bne_eq_false_iff_eq.mpr c163
              clear c163
              have H' := Aside0.mk H
              clear H
              have p593 : 0 ≤ (x432_6 : Int) := of_decide_eq_true (by first | (with_reducible assumption) | assumption)
              have q593 : x432_6 < (t551.length : Int) := of_decide_eq_true (by first | (with_reducible assumption) | assumption)
              obtain ⟨ad593, e593, hx593_0⟩ := Kd.at_int (Kd.R_reads' HO_430.out).2.2 x432_6 p593 q593
              cases e593
              replace p593 := eq_true p593
              replace q593 := eq_true q593
              have p594 : 0 ≤ (x432_6 : Int) := of_decide_eq_true (by first | (with_reducible assumption) | assumption)
              have q594 : x432_6 < (t547.length : Int) := of_decide_eq_true (by first | (with_reducible assumption) | assumption)
              obtain ⟨ad594, e594, hx594_0⟩ := Kd.at_int (Kd.R_reads' HO_33.out).2.2 x432_6 p594 q594
              cases e594
              replace p594 := eq_true p594
              replace q594 := eq_true q594
              obtain ⟨Ao164, co164, eo164⟩ := Kd.R_slice HO_39.out
              subst eo164
              have p595 : 0 ≤ (x432_6 : Int) := of_decide_eq_true (by first | (with_reducible assumption) | assumption)
              have q595 : x432_6 < (t559.length : Int) := of_decide_eq_true (by first | (with_reducible assumption) | assumption)
              obtain ⟨ad595, e595, hx595_0⟩ := Kd.at_int (Kd.R_reads' HO_39.out).2.2 x432_6 p595 q595
              cases e595
              replace p595 := eq_true p595
              replace q595 := eq_true q595
              go_wp2
              go_roundg k6
              case measure => have := HJ13.out; have := HJ51.out; have := HJ99.out; have := HJ125.out; have := HJ153.out; have := HK6.out; omega
              case rel => exact ⟨(wrap64 (x51_6 + (wrap64 ((rd t551 x432_6) * (rd t547 x432_6))))), (wrap64 (x432_6 + 1)), (by first | rfl | (simp; done) | (simp [*]; done)), (by first | rfl | (simp; done) | (simp [*]; done)), H', ⟨by have := HJ13.out; have := HJ51.out; have := HJ99.out; have := HJ125.out; have := HJ153.out; have := HK6.out; omega⟩, ⟨xR HO_33.out⟩, ⟨xR HO_39.out⟩, ⟨xR HO_430.out⟩, ⟨xB HB.out⟩⟩
/-- THE ONE PURE STATEMENT of laws_FnStepsAdapt: yours. -/
def laws_FnStepsAdapt.Pure : Prop := ∀ (l0 : List Int) (l1 : List Int), l0.length ≤ maxLen → l0.length * 1 ≤ 140737488351232 → (∀ x ∈ l0, (Lit.int .u8 x).wf = true) → l1.length ≤ maxLen → l1.length * 1 ≤ 140737488351232 → (∀ x ∈ l1, (Lit.int .u8 x).wf = true) → ∃ k, laws_FnStepsAdapt.f k l0 l1 = some true
theorem laws_FnStepsAdapt.walk (P : laws_FnStepsAdapt.Pure) (a0 : Option Addr) (len0 cap0 : Nat) (z0 : List Int) (a1 : Option Addr) (len1 cap1 : Nat) (z1 : List Int) (w : World) (w0 : (a0 = none ∧ len0 = 0 ∧ cap0 = 0 ∧ z0 = []) ∨ ∃ x, a0 = some x ∧ len0 ≤ cap0 ∧ cap0 ≤ maxLen ∧ z0.length = cap0 ∧ (∀ i, i < z0.length → w.cell? (x.add i) = some (.int .u8 (z0.getD i 0))) ∧ ∀ n ∈ z0, (Lit.int .u8 n).wf = true) (y0 : len0 * 1 ≤ 140737488351232) (w1 : (a1 = none ∧ len1 = 0 ∧ cap1 = 0 ∧ z1 = []) ∨ ∃ x, a1 = some x ∧ len1 ≤ cap1 ∧ cap1 ≤ maxLen ∧ z1.length = cap1 ∧ (∀ i, i < z1.length → w.cell? (x.add i) = some (.int .u8 (z1.getD i 0))) ∧ ∀ n ∈ z1, (Lit.int .u8 n).wf = true) (y1 : len1 * 1 ≤ 140737488351232) :
  Calls Try.prog 4 #[.slice a0 len0 cap0, .slice a1 len1 cap1] w fun e w' => e = .returned (.bool true) ∧ Below w.heap.size w w' := by
 obtain ⟨l0, rfl, hr0, hm0, hw0, hc0⟩ := ReadsInt.ofRowC w0
 obtain ⟨l1, rfl, hr1, hm1, hw1, hc1⟩ := ReadsInt.ofRowC w1
 obtain ⟨k, h⟩ := P l0 l1 hm0 y0 hw0 hm1 y1 hw1
 refine (laws_FnStepsAdapt.calls k _ _ l0 _ _ l1 true w (Kd.C_of_reads (d := (0 : Int)) (h1 := fun _ => rfl) hr0) hc0 (Kd.C_of_reads (d := (0 : Int)) (h1 := fun _ => rfl) hr1) hc1 h rfl).mono ?_
 rintro e w' ⟨rfl, hd⟩
 exact ⟨rfl, hd⟩

end Go.Proofs.Ytjplcongellcmaa.PFnStepsAdapt
