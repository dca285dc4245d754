/- What each Go function that the statement FnExactStepGaps reaches answers, proved call by call. No condition beyond those that the theorems print. (Written by wip/tools/xprint.py of this repo, over the kit's print.) -/
import Derived.Test.YtkfbaiabaplahaaPFnExactStepGapsx0
import Derived.Test.YtkfbaiabaplahaaPFnExactStepGapsx1
import Derived.Test.YtkfbaiabaplahaaPFnExactStepGapsx2
namespace Go.Proofs.Ytkfbaiabaplahaa.PFnExactStepGaps
open Go.RowKit Go.Proofs.YtkfbaiabaplahaaW.PrintWords Go.Proofs.YtkfbaiabaplahaaW.PrintLast Go.Proofs.YtkfbaiabaplahaaW.PrintMore
attribute [local go_sem] max2_int min2_int max_two min_two max_three min_three max_four min_four   -- for this text's walks alone
set_option linter.unusedVariables false
set_option linter.unusedSimpArgs false

/-! ### spec_StepGaps: function 32 -/
def spec_StepGaps.j0 : Nat → List Int → Int → Bool → Option (List Int × Bool)
  | 0, _, _, _ => none
  | k + 1, x0, x1, x13 => if x13 = true then (some (([] : List Int), false)) else ((spec_tnGaps.f k x0 x1).bind fun t142 => ((spec_wdIf.f k t142).bind fun bt145 => (some (bt145.1, bt145.2))))
def spec_StepGaps.f (k : Nat) (l0 : List Int) (a1 : Int) : Option (List Int × Bool) := (spec_wdSignal.f k l0).bind fun t140 => (if t140 = true then ((spec_tnStep.f a1).bind fun t141 => (spec_StepGaps.j0 k l0 a1 (!t141))) else (spec_StepGaps.j0 k l0 a1 true))
theorem spec_StepGaps.mono_l : ∀ k, (∀ y0 y1 y2, LeO (spec_StepGaps.j0 k y0 y1 y2) (spec_StepGaps.j0 (k + 1) y0 y1 y2))
  | 0 => fun _ _ _ r h => by simp [spec_StepGaps.j0] at h
  | k + 1 => by
    have ih0 := spec_StepGaps.mono_l k
    · intro y0 y1 y2
      unfold spec_StepGaps.j0
      repeat' first
      | (with_reducible exact ih0 _ _ _)
      | (with_reducible exact spec_tnGaps.mono _ _ _)
      | (with_reducible exact spec_wdIf.mono _ _)
      | (with_reducible exact spec_wdSignal.mono _ _)
      | (with_reducible exact LeO.refl _)
      | (with_reducible exact LeO.none _)
      | (with_reducible refine LeO.ite ?_ ?_)
      | (with_reducible refine LeO.bind ?_ (fun _ => ?_))
      | exact ih0 _ _ _
      | exact spec_tnGaps.mono _ _ _
      | exact spec_wdIf.mono _ _
      | exact spec_wdSignal.mono _ _
      | exact LeO.none _
      | refine LeO.ite ?_ ?_
      | refine LeO.bind ?_ (fun _ => ?_)
theorem spec_StepGaps.mono : ∀ a0 a1 k, LeO (spec_StepGaps.f k a0 a1) (spec_StepGaps.f (k + 1) a0 a1) := by
  intro a0 a1 k
  have ih0 := spec_StepGaps.mono_l k
  unfold spec_StepGaps.f
  repeat' first
      | (with_reducible exact ih0 _ _ _)
      | (with_reducible exact spec_tnGaps.mono _ _ _)
      | (with_reducible exact spec_wdIf.mono _ _)
      | (with_reducible exact spec_wdSignal.mono _ _)
      | (with_reducible exact LeO.refl _)
      | (with_reducible exact LeO.none _)
      | (with_reducible refine LeO.ite ?_ ?_)
      | (with_reducible refine LeO.bind ?_ (fun _ => ?_))
      | exact ih0 _ _ _
      | exact spec_tnGaps.mono _ _ _
      | exact spec_wdIf.mono _ _
      | exact spec_wdSignal.mono _ _
      | exact LeO.none _
      | refine LeO.ite ?_ ?_
      | refine LeO.bind ?_ (fun _ => ?_)
set_option maxHeartbeats 8000000 in
set_option maxRecDepth 100000 in
theorem spec_StepGaps.calls (k : Nat) (A0 : Option Addr) (c0 : Nat) (l0 : List Int) (a1 : Int) (r1 : List Int) (r2 : Bool) (w : World) (hr0 : Kd.C (Kd.int .i64) w A0 l0.length l0) (hc0 : l0.length ≤ c0) (h : spec_StepGaps.f k l0 a1 = some (r1, r2)) :
    Calls Try.prog 32 #[.slice A0 l0.length c0, .int .i64 a1] w fun e w' => ∃ v0_ : Value, e = .returned (.tuple #[v0_, .bool r2]) ∧ Kd.R (Kd.int .i64) 3 w' w.heap.size (fun _ => True) v0_ r1 ∧ Below w.heap.size w w' := by
  have HR0 := Aside0.mk hr0
  have HC0 := Aside0.mk hc0
  clear hr0 hc0
  have HB := Aside0.mk (Below.refl w.heap.size w)
  have H : ((spec_wdSignal.f k l0).bind fun t140 => (if t140 = true then ((spec_tnStep.f a1).bind fun t141 => (spec_StepGaps.j0 k l0 a1 (!t141))) else (spec_StepGaps.j0 k l0 a1 true))) = some (r1, r2) := h
  clear h
  have HC3 := Aside0.mk H
  clear H
  go_enter Try.func32, Try.ntmps32
  go_upto_region 1 with (fail)
  go_cut [13] (fun v13 wc => ∃ (kq : Nat) (x13_2 : Bool), v13 = .bool x13_2 ∧ Aside0 (spec_StepGaps.j0 kq l0 a1 x13_2 = some (r1, r2)) ∧ Aside0 (kq ≤ k) ∧ Aside0 (Below w.heap.size w wc))
  case first => as_aux_lemma =>
    have H := HC3.out
    clear HC3
    replace H := Option.bind_eq_some_iff.mp H
    obtain ⟨t140, A40, H⟩ := H
    replace H : (if t140 = true then ((spec_tnStep.f a1).bind fun t141 => (spec_StepGaps.j0 k l0 a1 (!t141))) else (spec_StepGaps.j0 k l0 a1 true)) = some (r1, r2) := H
    have A4 := Aside0.mk A40
    clear A40
    by_cases c5 : t140 = true
    · subst c5
      have H1 : ((spec_tnStep.f a1).bind fun t141 => (spec_StepGaps.j0 k l0 a1 (!t141))) = some (r1, r2) := by rw [if_pos rfl] at H; exact H
      clear H
      have H := H1
      clear H1
      replace H := Option.bind_eq_some_iff.mp H
      obtain ⟨t141, A60, H⟩ := H
      replace H : (spec_StepGaps.j0 k l0 a1 (!t141)) = some (r1, r2) := H
      have A6 := Aside0.mk A60
      clear A60
      have H' := Aside0.mk H
      clear H
      go_wp2_with (first | ((with_reducible refine gate_callee (f := 38) rfl ?_); refine goesL_ (some 7) rfl rfl Try.func38 (by kernel_rfl) rfl #[.slice A0 l0.length c0] rfl (by (try simp only [List.map_toArray, List.map_cons, List.map_nil]); first | done | rfl | (simp only [List.length_drop, List.length_take]; rfl)) ?_; (with_reducible refine (spec_wdSignal.calls k _ _ l0 true _ ?side1 ?side2 A4.out).mono ?_); (case side1 => repeat (first | exact (Kd.C_below HR0.out HB.out) | (with_reducible refine Kd.C_alloc ?_ _) | (with_reducible refine Kd.C_drewN ?_ _) | (with_reducible refine Kd.C_drew ?_))); (case side2 => exact HC0.out); rintro e w' ⟨rfl, ⟨nd, rfl⟩⟩; refine ⟨_, rfl, ?_⟩) | (go_at_call 39; (with_reducible refine (spec_tnStep.calls a1 t141 _ A6.out).mono ?_); rintro e w' ⟨rfl, ⟨nd, rfl⟩⟩))
      go_meet
      case rel => exact ⟨_, (!t141), (by first | rfl | (simp; done) | (simp [*]; done)), H', ⟨by first | omega | exact Nat.le_refl _⟩, ⟨by repeat (first | (with_reducible first | exact HB.out | apply below_alloc | apply pw_below_drewN | apply below_drew1) | exact HB.out)⟩⟩
    · replace c5 := Bool.eq_false_iff.mpr c5
      subst c5
      have H1 : (spec_StepGaps.j0 k l0 a1 true) = some (r1, r2) := by rw [if_neg (show ¬ (false = true) by decide)] at H; exact H
      clear H
      have H := H1
      clear H1
      have H' := Aside0.mk H
      clear H
      go_wp2_with (first | ((with_reducible refine gate_callee (f := 38) rfl ?_); refine goesL_ (some 7) rfl rfl Try.func38 (by kernel_rfl) rfl #[.slice A0 l0.length c0] rfl (by (try simp only [List.map_toArray, List.map_cons, List.map_nil]); first | done | rfl | (simp only [List.length_drop, List.length_take]; rfl)) ?_; (with_reducible refine (spec_wdSignal.calls k _ _ l0 false _ ?side1 ?side2 A4.out).mono ?_); (case side1 => repeat (first | exact (Kd.C_below HR0.out HB.out) | (with_reducible refine Kd.C_alloc ?_ _) | (with_reducible refine Kd.C_drewN ?_ _) | (with_reducible refine Kd.C_drew ?_))); (case side2 => exact HC0.out); rintro e w' ⟨rfl, ⟨nd, rfl⟩⟩; refine ⟨_, rfl, ?_⟩))
      go_meet
      case rel => exact ⟨_, (true), (by first | rfl | (simp; done) | (simp [*]; done)), H', ⟨by first | omega | exact Nat.le_refl _⟩, ⟨by repeat (first | (with_reducible first | exact HB.out | apply below_alloc | apply pw_below_drewN | apply below_drew1) | exact HB.out)⟩⟩
  case rest => as_aux_lemma =>
    clear HC3
    try clear p2
    try clear c3
    try clear c5
    obtain ⟨kq, x13_2, rfl, HA, HJ2, HB⟩ := hcut
    cases kq with
    | zero => exact absurd HA.out (by simp [spec_StepGaps.j0])
    | succ kj2 =>
      have H := HA.out
      clear HA
      simp only [spec_StepGaps.j0] at H
      by_cases c7 : x13_2 = true
      · subst c7
        have H1 : (some (([] : List Int), false)) = some (r1, r2) := by rw [if_pos rfl] at H; exact H
        clear H
        have H := H1
        clear H1
        simp only [Option.some.injEq, Prod.mk.injEq] at H
        obtain ⟨rfl, rfl⟩ := H
        go_wp2
        go_ret2
        exact ⟨_, by first | rfl | (simp [errW_none, errW_some] <;> rfl) | (simp [*, errW_none, errW_some] <;> rfl), by first | exact Kd.R_nil _ _ _ _ _ | exact Kd.N_nil _ _ _ _ _ | exact Kd.V_nil _ _ _ _ _ | exact Kd.Q_nil _ _ _ _ _ | exact Kd.S_nil _ _ _ _ _, by repeat (first | (with_reducible first | exact HB.out | apply below_alloc | apply pw_below_drewN | apply below_drew1) | exact HB.out)⟩
      · replace c7 := Bool.eq_false_iff.mpr c7
        subst c7
        have H1 : ((spec_tnGaps.f kj2 l0 a1).bind fun t142 => ((spec_wdIf.f kj2 t142).bind fun bt145 => (some (bt145.1, bt145.2)))) = some (r1, r2) := by rw [if_neg (show ¬ (false = true) by decide)] at H; exact H
        clear H
        have H := H1
        clear H1
        replace H := Option.bind_eq_some_iff.mp H
        obtain ⟨t142, A80, H⟩ := H
        replace H : ((spec_wdIf.f kj2 t142).bind fun bt145 => (some (bt145.1, bt145.2))) = some (r1, r2) := H
        have A8 := Aside0.mk A80
        clear A80
        replace H := Option.bind_eq_some_iff.mp H
        obtain ⟨⟨t145, t148⟩, A90, H⟩ := H
        replace H : (some (t145, t148)) = some (r1, r2) := H
        have A9 := Aside0.mk A90
        clear A90
        simp only [Option.some.injEq, Prod.mk.injEq] at H
        obtain ⟨rfl, rfl⟩ := H
        go_wp2_with (first | ((with_reducible refine gate_callee (f := 65) rfl ?_); refine goesL_ (some 16) rfl rfl Try.func65 (by kernel_rfl) rfl #[.slice A0 l0.length c0, .int .i64 a1] rfl (by (try simp only [List.map_toArray, List.map_cons, List.map_nil]); first | done | rfl | (simp only [List.length_drop, List.length_take]; rfl)) ?_; (with_reducible refine (spec_tnGaps.calls kj2 _ _ l0 a1 t142 _ ?side1 ?side2 A8.out).mono ?_); (case side1 => repeat (first | exact (Kd.C_below HR0.out HB.out) | (with_reducible refine Kd.C_alloc ?_ _) | (with_reducible refine Kd.C_drewN ?_ _) | (with_reducible refine Kd.C_drew ?_))); (case side2 => exact HC0.out); rintro e w10 ⟨v143, rfl, ho0, hb⟩; refine ⟨_, rfl, ?_⟩; have n0_ := Aside0.mk (Kd.R_lower ho0 (below_size (by repeat (first | (with_reducible first | exact HB.out | apply below_alloc | apply pw_below_drewN | apply below_drew1) | exact HB.out)))); have n1_ := Aside0.mk (below_step (by repeat (first | (with_reducible first | exact HB.out | apply below_alloc | apply pw_below_drewN | apply below_drew1) | exact HB.out)) hb); clear HB; have HO144 := n0_; have HB := n1_; clear n0_ n1_; (try clear hb); (try clear hb2); (try clear hk); (try clear hi); (try clear ho0); obtain ⟨Ao11, co11, eo11⟩ := Kd.R_slice HO144.out; subst eo11) | ((with_reducible refine gate_callee (f := 46) rfl ?_); refine goesL_ (some 17) rfl rfl Try.func46 (by kernel_rfl) rfl #[.slice Ao11 t142.length co11] rfl (by (try simp only [List.map_toArray, List.map_cons, List.map_nil]); first | done | rfl | (simp only [List.length_drop, List.length_take]; rfl)) ?_; (with_reducible refine (spec_wdIf.calls kj2 (fun k_ => some k_ = (.slice Ao11 t142.length co11 : Value).ownBlock) (.slice Ao11 t142.length co11) t142 t145 t148 w _ ?side1 ?side2 A9.out).mono ?_); (case side1 => repeat (first | (with_reducible first | exact HB.out | apply below_alloc | apply pw_below_drewN | apply below_drew1) | exact HB.out)); (case side2 => exact Kd.R_tight rfl HO144.out); rintro e w12 ⟨v146, rfl, ho0, hb, hkp⟩; refine ⟨_, rfl, ?_⟩; have n0_ := Aside0.mk (Kd.R_mono (ok' := fun k_ => True) ho0 (fun k_ hk_ => trivial)); have n1_ := Aside0.mk (hb); clear HB; clear HO144; have HO147 := n0_; have HB := n1_; clear n0_ n1_; (try clear hb); (try clear hkp); (try clear ho0)))
        go_ret2
        exact ⟨_, by first | rfl | (simp [errW_none, errW_some] <;> rfl) | (simp [*, errW_none, errW_some] <;> rfl), by (with_reducible repeat (first | apply Kd.R_alloc | apply Kd.R_drewN | apply Kd.R_drew)); exact HO147.out, by repeat (first | (with_reducible first | exact HB.out | apply below_alloc | apply pw_below_drewN | apply below_drew1) | exact HB.out)⟩

/-! ### impl_in: function 55 -/
def impl_in.f (a0 : Int) (a1 : Int) (a2 : Int) : Option (Bool) := if a1 ≤ a0 then (some (decide (a0 ≤ a2))) else (some false)
set_option maxHeartbeats 8000000 in
set_option maxRecDepth 100000 in
theorem impl_in.calls (a0 : Int) (a1 : Int) (a2 : Int) (r : Bool) (w : World) (h : impl_in.f a0 a1 a2 = some r) :
    Calls Try.prog 55 #[.int .i64 a0, .int .i64 a1, .int .i64 a2] w fun e w' => e = .returned (.bool r) ∧ Drawn0 w w' := by
  have H : (if a1 ≤ a0 then (some (decide (a0 ≤ a2))) else (some false)) = some r := h
  clear h
  by_cases c4 : a1 ≤ a0
  · rw [if_pos c4] at H
    have c4b0 : decide (a1 ≤ a0) = true := decide_eq_true c4
    clear c4
    obtain rfl := Option.some.inj H
    go_enter Try.func55, Try.ntmps55
    go_wp2
    go_ret
    exact ⟨by first | rfl | (simp; done) | (simp [*]; done), by repeat (first | exact Drawn0.refl _ | apply Drawn0.step)⟩
  · rw [if_neg c4] at H
    have c4b0 : decide (a1 ≤ a0) = false := decide_eq_false c4
    clear c4
    obtain rfl := Option.some.inj H
    go_enter Try.func55, Try.ntmps55
    go_wp2
    go_ret
    exact ⟨by first | rfl | (simp; done) | (simp [*]; done), by repeat (first | exact Drawn0.refl _ | apply Drawn0.step)⟩

/-! ### impl_isSignal_c1: function 71 -/
def impl_isSignal_c1.f (a0 : Int) : Option (Bool) := (impl_in.f a0 (-100000) 100000).bind fun t149 => (some (!t149))
set_option maxHeartbeats 8000000 in
set_option maxRecDepth 100000 in
theorem impl_isSignal_c1.calls (a0 : Int) (r : Bool) (w : World) (h : impl_isSignal_c1.f a0 = some r) :
    Calls Try.prog 71 #[.int .i64 a0] w fun e w' => e = .returned (.bool r) ∧ Drawn0 w w' := by
  have H : ((impl_in.f a0 (-100000) 100000).bind fun t149 => (some (!t149))) = some r := h
  clear h
  replace H := Option.bind_eq_some_iff.mp H
  obtain ⟨t149, A20, H⟩ := H
  replace H : (some (!t149)) = some r := H
  have A2 := Aside0.mk A20
  clear A20
  obtain rfl := Option.some.inj H
  go_enter Try.func71, Try.ntmps71
  go_wp2_with (first | ((with_reducible refine gate_callee (f := 55) rfl ?_); refine goesL_ (some 4) rfl rfl Try.func55 (by kernel_rfl) rfl #[.int .i64 a0, .int .i64 (-100000), .int .i64 100000] rfl (by (try simp only [List.map_toArray, List.map_cons, List.map_nil]); first | done | rfl | (simp only [List.length_drop, List.length_take]; rfl)) ?_; (with_reducible refine (impl_in.calls a0 (-100000) 100000 t149 _ A2.out).mono ?_); rintro e w' ⟨rfl, ⟨nd, rfl⟩⟩; refine ⟨_, rfl, ?_⟩))
  go_ret
  exact ⟨by first | rfl | (simp; done) | (simp [*]; done), by repeat (first | exact Drawn0.refl _ | apply Drawn0.step)⟩

/-! ### slices_IndexFunc_int_int_impl_isSignal_c1: function 106 -/
def slices_IndexFunc_int_int_impl_isSignal_c1.l0 : Nat → List Int → Int → Int → Option (Int)
  | 0, _, _, _ => none
  | k + 1, x0, x7, x8 => if x8 < x7 then (if 0 ≤ x8 then (if x8 < (x0.length : Int) then ((impl_isSignal_c1.f (rd x0 x8)).bind fun t151 => (if t151 = true then (some x8) else (slices_IndexFunc_int_int_impl_isSignal_c1.l0 k x0 x7 (wrap64 (x8 + 1))))) else (none)) else (none)) else (some (-1))
def slices_IndexFunc_int_int_impl_isSignal_c1.f (k : Nat) (l0 : List Int) : Option (Int) := slices_IndexFunc_int_int_impl_isSignal_c1.l0 k l0 (l0.length : Int) 0
theorem slices_IndexFunc_int_int_impl_isSignal_c1.mono_l : ∀ k, (∀ y0 y1 y2, LeO (slices_IndexFunc_int_int_impl_isSignal_c1.l0 k y0 y1 y2) (slices_IndexFunc_int_int_impl_isSignal_c1.l0 (k + 1) y0 y1 y2))
  | 0 => fun _ _ _ r h => by simp [slices_IndexFunc_int_int_impl_isSignal_c1.l0] at h
  | k + 1 => by
    have ih0 := slices_IndexFunc_int_int_impl_isSignal_c1.mono_l k
    · intro y0 y1 y2
      unfold slices_IndexFunc_int_int_impl_isSignal_c1.l0
      repeat' first
      | (with_reducible exact ih0 _ _ _)
      | (with_reducible exact LeO.refl _)
      | (with_reducible exact LeO.none _)
      | (with_reducible refine LeO.ite ?_ ?_)
      | (with_reducible refine LeO.bind ?_ (fun _ => ?_))
      | exact ih0 _ _ _
      | exact LeO.none _
      | refine LeO.ite ?_ ?_
      | refine LeO.bind ?_ (fun _ => ?_)
theorem slices_IndexFunc_int_int_impl_isSignal_c1.mono : ∀ a0 k, LeO (slices_IndexFunc_int_int_impl_isSignal_c1.f k a0) (slices_IndexFunc_int_int_impl_isSignal_c1.f (k + 1) a0) := by
  intro a0 k
  have ih0 := slices_IndexFunc_int_int_impl_isSignal_c1.mono_l k
  unfold slices_IndexFunc_int_int_impl_isSignal_c1.f
  repeat' first
      | (with_reducible exact ih0 _ _ _)
      | (with_reducible exact LeO.refl _)
      | (with_reducible exact LeO.none _)
      | (with_reducible refine LeO.ite ?_ ?_)
      | (with_reducible refine LeO.bind ?_ (fun _ => ?_))
      | exact ih0 _ _ _
      | exact LeO.none _
      | refine LeO.ite ?_ ?_
      | refine LeO.bind ?_ (fun _ => ?_)
set_option maxHeartbeats 8000000 in
set_option maxRecDepth 100000 in
theorem slices_IndexFunc_int_int_impl_isSignal_c1.calls (k : Nat) (A0 : Option Addr) (c0 : Nat) (l0 : List Int) (r : Int) (w : World) (hr0 : Kd.C (Kd.int .i64) w A0 l0.length l0) (hc0 : l0.length ≤ c0) (h : slices_IndexFunc_int_int_impl_isSignal_c1.f k l0 = some r) :
    Calls Try.prog 87 #[.slice A0 l0.length c0, .func (.func 71) #[] #[]] w fun e w' => e = .returned (.int .i64 r) ∧ Drawn0 w w' := by
  have HR0 := Aside0.mk hr0
  have HC0 := Aside0.mk hc0
  clear hr0 hc0
  have H : (slices_IndexFunc_int_int_impl_isSignal_c1.l0 k l0 (l0.length : Int) 0) = some r := h
  clear h
  have H' := Aside0.mk H
  clear H
  go_enter Try.func87, Try.ntmps87
  go_wp2
  go_loopg [8] k (fun kq v8 w' => ∃ (x8_1 : Int), v8 = .int .i64 x8_1 ∧ Aside0 (slices_IndexFunc_int_int_impl_isSignal_c1.l0 kq l0 (l0.length : Int) x8_1 = some r) ∧ Aside0 (kq ≤ k) ∧ Drawn0 w w')
  case atStart => exact ⟨(0), (by first | rfl | (simp; done) | (simp [*]; done)), H', ⟨Nat.le_refl _⟩, by repeat (first | exact Drawn0.refl _ | apply Drawn0.step)⟩
  case round =>
    clear H'
    try clear c1
    obtain ⟨x8_1, rfl, HA, HK1, ⟨m1, rfl⟩⟩ := hrel
    cases gk with
    | zero => exact absurd HA.out (by simp [slices_IndexFunc_int_int_impl_isSignal_c1.l0])
    | succ k1 =>
      have H := HA.out
      clear HA
      simp only [slices_IndexFunc_int_int_impl_isSignal_c1.l0] at H
      by_cases c2 : x8_1 < (l0.length : Int)
      · rw [if_pos c2] at H
        have c2b0 : decide (x8_1 < (l0.length : Int)) = true := decide_eq_true c2
        clear c2
        by_cases c3 : 0 ≤ x8_1
        · rw [if_pos c3] at H
          have c3b0 : decide (0 ≤ x8_1) = true := decide_eq_true c3
          clear c3
          by_cases c4 : x8_1 < (l0.length : Int)
          · rw [if_pos c4] at H
            have c4b0 : decide (x8_1 < (l0.length : Int)) = true := decide_eq_true c4
            clear c4
            replace H := Option.bind_eq_some_iff.mp H
            obtain ⟨t151, A50, H⟩ := H
            replace H : (if t151 = true then (some x8_1) else (slices_IndexFunc_int_int_impl_isSignal_c1.l0 k1 l0 (l0.length : Int) (wrap64 (x8_1 + 1)))) = some r := H
            have A5 := Aside0.mk A50
            clear A50
            by_cases c6 : t151 = true
            · subst c6
              have H1 : (some x8_1) = some r := by rw [if_pos rfl] at H; exact H
              clear H
              have H := H1
              clear H1
              obtain rfl := Option.some.inj H
              have p150 : 0 ≤ (x8_1 : Int) := of_decide_eq_true (by first | (with_reducible assumption) | assumption)
              have q150 : x8_1 < (l0.length : Int) := of_decide_eq_true (by first | (with_reducible assumption) | assumption)
              obtain ⟨ad150, e150, hx150_0⟩ := Kd.at_int HR0.out x8_1 p150 q150
              cases e150
              replace p150 := eq_true p150
              replace q150 := eq_true q150
              go_wp2_with (first | (go_at_call 71; (with_reducible refine (impl_isSignal_c1.calls (rd l0 x8_1) true _ A5.out).mono ?_); rintro e w' ⟨rfl, ⟨nd, rfl⟩⟩))
              go_ret
              exact ⟨by first | rfl | (simp; done) | (simp [*]; done), by repeat (first | exact Drawn0.refl _ | apply Drawn0.step)⟩
            · replace c6 := Bool.eq_false_iff.mpr c6
              subst c6
              have H1 : (slices_IndexFunc_int_int_impl_isSignal_c1.l0 k1 l0 (l0.length : Int) (wrap64 (x8_1 + 1))) = some r := by rw [if_neg (show ¬ (false = true) by decide)] at H; exact H
              clear H
              have H := H1
              clear H1
              have H' := Aside0.mk H
              clear H
              have p150 : 0 ≤ (x8_1 : Int) := of_decide_eq_true (by first | (with_reducible assumption) | assumption)
              have q150 : x8_1 < (l0.length : Int) := of_decide_eq_true (by first | (with_reducible assumption) | assumption)
              obtain ⟨ad150, e150, hx150_0⟩ := Kd.at_int HR0.out x8_1 p150 q150
              cases e150
              replace p150 := eq_true p150
              replace q150 := eq_true q150
              go_wp2_with (first | (go_at_call 71; (with_reducible refine (impl_isSignal_c1.calls (rd l0 x8_1) false _ A5.out).mono ?_); rintro e w' ⟨rfl, ⟨nd, rfl⟩⟩))
              go_roundg k1
              case measure => have := HK1.out; omega
              case rel => exact ⟨(wrap64 (x8_1 + 1)), (by first | rfl | (simp; done) | (simp [*]; done)), H', ⟨by have := HK1.out; omega⟩, by repeat (first | exact Drawn0.refl _ | apply Drawn0.step)⟩
          · rw [if_neg c4] at H
            exact absurd H (by simp)
        · rw [if_neg c3] at H
          exact absurd H (by simp)
      · rw [if_neg c2] at H
        have c2b0 : decide (x8_1 < (l0.length : Int)) = false := decide_eq_false c2
        clear c2
        obtain rfl := Option.some.inj H
        go_wp2
        go_ret
        exact ⟨by first | rfl | (simp; done) | (simp [*]; done), by repeat (first | exact Drawn0.refl _ | apply Drawn0.step)⟩

/-! ### slices_ContainsFunc_int_int_impl_isSignal_c1: function 105 -/
def slices_ContainsFunc_int_int_impl_isSignal_c1.f (k : Nat) (l0 : List Int) : Option (Bool) := (slices_IndexFunc_int_int_impl_isSignal_c1.f k l0).bind fun t152 => (some (decide (t152 ≥ 0)))
theorem slices_ContainsFunc_int_int_impl_isSignal_c1.mono : ∀ a0 k, LeO (slices_ContainsFunc_int_int_impl_isSignal_c1.f k a0) (slices_ContainsFunc_int_int_impl_isSignal_c1.f (k + 1) a0) := by
  intro a0 k
  unfold slices_ContainsFunc_int_int_impl_isSignal_c1.f
  repeat' first
      | (with_reducible exact slices_IndexFunc_int_int_impl_isSignal_c1.mono _ _)
      | (with_reducible exact LeO.refl _)
      | (with_reducible exact LeO.none _)
      | (with_reducible refine LeO.ite ?_ ?_)
      | (with_reducible refine LeO.bind ?_ (fun _ => ?_))
      | exact slices_IndexFunc_int_int_impl_isSignal_c1.mono _ _
      | exact LeO.none _
      | refine LeO.ite ?_ ?_
      | refine LeO.bind ?_ (fun _ => ?_)
set_option maxHeartbeats 8000000 in
set_option maxRecDepth 100000 in
theorem slices_ContainsFunc_int_int_impl_isSignal_c1.calls (k : Nat) (A0 : Option Addr) (c0 : Nat) (l0 : List Int) (r : Bool) (w : World) (hr0 : Kd.C (Kd.int .i64) w A0 l0.length l0) (hc0 : l0.length ≤ c0) (h : slices_ContainsFunc_int_int_impl_isSignal_c1.f k l0 = some r) :
    Calls Try.prog 70 #[.slice A0 l0.length c0, .func (.func 71) #[] #[]] w fun e w' => e = .returned (.bool r) ∧ Drawn0 w w' := by
  have HR0 := Aside0.mk hr0
  have HC0 := Aside0.mk hc0
  clear hr0 hc0
  have H : ((slices_IndexFunc_int_int_impl_isSignal_c1.f k l0).bind fun t152 => (some (decide (t152 ≥ 0)))) = some r := h
  clear h
  replace H := Option.bind_eq_some_iff.mp H
  obtain ⟨t152, A20, H⟩ := H
  replace H : (some (decide (t152 ≥ 0))) = some r := H
  have A2 := Aside0.mk A20
  clear A20
  obtain rfl := Option.some.inj H
  go_enter Try.func70, Try.ntmps70
  go_wp2_with (first | ((with_reducible refine gate_callee (f := 87) rfl ?_); refine goesL_ (some 7) rfl rfl Try.func87 (by kernel_rfl) rfl #[.slice A0 l0.length c0, .func (.func 71) #[] #[]] rfl (by (try simp only [List.map_toArray, List.map_cons, List.map_nil]); first | done | rfl | (simp only [List.length_drop, List.length_take]; rfl)) ?_; (with_reducible refine (slices_IndexFunc_int_int_impl_isSignal_c1.calls k _ _ l0 t152 _ ?side1 ?side2 A2.out).mono ?_); (case side1 => repeat (first | exact HR0.out | (with_reducible refine Kd.C_alloc ?_ _) | (with_reducible refine Kd.C_drewN ?_ _) | (with_reducible refine Kd.C_drew ?_))); (case side2 => exact HC0.out); rintro e w' ⟨rfl, ⟨nd, rfl⟩⟩; refine ⟨_, rfl, ?_⟩))
  go_ret
  exact ⟨by first | rfl | (simp; done) | (simp [*]; done), by repeat (first | exact Drawn0.refl _ | apply Drawn0.step)⟩

/-! ### impl_isSignal: function 41 -/
def impl_isSignal.f (k : Nat) (l0 : List Int) : Option (Bool) := if (l0.length : Int) ≤ 64 then ((slices_ContainsFunc_int_int_impl_isSignal_c1.f k l0).bind fun t153 => (some (!t153))) else (some false)
theorem impl_isSignal.mono : ∀ a0 k, LeO (impl_isSignal.f k a0) (impl_isSignal.f (k + 1) a0) := by
  intro a0 k
  unfold impl_isSignal.f
  repeat' first
      | (with_reducible exact slices_ContainsFunc_int_int_impl_isSignal_c1.mono _ _)
      | (with_reducible exact LeO.refl _)
      | (with_reducible exact LeO.none _)
      | (with_reducible refine LeO.ite ?_ ?_)
      | (with_reducible refine LeO.bind ?_ (fun _ => ?_))
      | exact slices_ContainsFunc_int_int_impl_isSignal_c1.mono _ _
      | exact LeO.none _
      | refine LeO.ite ?_ ?_
      | refine LeO.bind ?_ (fun _ => ?_)
set_option maxHeartbeats 8000000 in
set_option maxRecDepth 100000 in
theorem impl_isSignal.calls (k : Nat) (A0 : Option Addr) (c0 : Nat) (l0 : List Int) (r : Bool) (w : World) (hr0 : Kd.C (Kd.int .i64) w A0 l0.length l0) (hc0 : l0.length ≤ c0) (h : impl_isSignal.f k l0 = some r) :
    Calls Try.prog 41 #[.slice A0 l0.length c0] w fun e w' => e = .returned (.bool r) ∧ Drawn0 w w' := by
  have HR0 := Aside0.mk hr0
  have HC0 := Aside0.mk hc0
  clear hr0 hc0
  have H : (if (l0.length : Int) ≤ 64 then ((slices_ContainsFunc_int_int_impl_isSignal_c1.f k l0).bind fun t153 => (some (!t153))) else (some false)) = some r := h
  clear h
  by_cases c2 : (l0.length : Int) ≤ 64
  · rw [if_pos c2] at H
    have c2b0 : decide ((l0.length : Int) ≤ 64) = true := decide_eq_true c2
    have c2b1 : decide (l0.length ≤ 64) = true := decide_eq_true (by omega)
    clear c2
    replace H := Option.bind_eq_some_iff.mp H
    obtain ⟨t153, A30, H⟩ := H
    replace H : (some (!t153)) = some r := H
    have A3 := Aside0.mk A30
    clear A30
    obtain rfl := Option.some.inj H
    go_enter Try.func41, Try.ntmps41
    go_wp2_with (first | (go_at_call 70; (with_reducible refine (slices_ContainsFunc_int_int_impl_isSignal_c1.calls k _ _ l0 t153 _ ?side1 ?side2 A3.out).mono ?_); (case side1 => repeat (first | exact HR0.out | (with_reducible refine Kd.C_alloc ?_ _) | (with_reducible refine Kd.C_drewN ?_ _) | (with_reducible refine Kd.C_drew ?_))); (case side2 => exact HC0.out); rintro e w' ⟨rfl, ⟨nd, rfl⟩⟩))
    go_ret
    exact ⟨by first | rfl | (simp; done) | (simp [*]; done), by repeat (first | exact Drawn0.refl _ | apply Drawn0.step)⟩
  · rw [if_neg c2] at H
    have c2b0 : decide ((l0.length : Int) ≤ 64) = false := decide_eq_false c2
    have c2b1 : decide (l0.length ≤ 64) = false := decide_eq_false (by omega)
    clear c2
    obtain rfl := Option.some.inj H
    go_enter Try.func41, Try.ntmps41
    go_wp2
    go_ret
    exact ⟨by first | rfl | (simp; done) | (simp [*]; done), by repeat (first | exact Drawn0.refl _ | apply Drawn0.step)⟩

/-! ### impl_isStep: function 42 -/
def impl_isStep.f (a0 : Int) : Option (Bool) := (impl_in.f a0 1 4096).bind fun t154 => (some t154)
set_option maxHeartbeats 8000000 in
set_option maxRecDepth 100000 in
theorem impl_isStep.calls (a0 : Int) (r : Bool) (w : World) (h : impl_isStep.f a0 = some r) :
    Calls Try.prog 42 #[.int .i64 a0] w fun e w' => e = .returned (.bool r) ∧ Drawn0 w w' := by
  have H : ((impl_in.f a0 1 4096).bind fun t154 => (some t154)) = some r := h
  clear h
  replace H := Option.bind_eq_some_iff.mp H
  obtain ⟨t154, A20, H⟩ := H
  replace H : (some t154) = some r := H
  have A2 := Aside0.mk A20
  clear A20
  obtain rfl := Option.some.inj H
  go_enter Try.func42, Try.ntmps42
  go_wp2_with (first | ((with_reducible refine gate_callee (f := 55) rfl ?_); refine goesL_ (some 4) rfl rfl Try.func55 (by kernel_rfl) rfl #[.int .i64 a0, .int .i64 1, .int .i64 4096] rfl (by (try simp only [List.map_toArray, List.map_cons, List.map_nil]); first | done | rfl | (simp only [List.length_drop, List.length_take]; rfl)) ?_; (with_reducible refine (impl_in.calls a0 1 4096 t154 _ A2.out).mono ?_); rintro e w' ⟨rfl, ⟨nd, rfl⟩⟩; refine ⟨_, rfl, ?_⟩))
  go_ret
  exact ⟨by first | rfl | (simp; done) | (simp [*]; done), by repeat (first | exact Drawn0.refl _ | apply Drawn0.step)⟩

/-! ### impl_told: function 51 -/
def impl_told.f (k : Nat) (l0 : List Int) : Option (List Int × Bool) := (impl_isSignal.f k l0).bind fun t155 => (if t155 = true then (some (l0, true)) else (some (([] : List Int), false)))
theorem impl_told.mono : ∀ a0 k, LeO (impl_told.f k a0) (impl_told.f (k + 1) a0) := by
  intro a0 k
  unfold impl_told.f
  repeat' first
      | (with_reducible exact impl_isSignal.mono _ _)
      | (with_reducible exact LeO.refl _)
      | (with_reducible exact LeO.none _)
      | (with_reducible refine LeO.ite ?_ ?_)
      | (with_reducible refine LeO.bind ?_ (fun _ => ?_))
      | exact impl_isSignal.mono _ _
      | exact LeO.none _
      | refine LeO.ite ?_ ?_
      | refine LeO.bind ?_ (fun _ => ?_)
set_option maxHeartbeats 8000000 in
set_option maxRecDepth 100000 in
theorem impl_told.calls (k : Nat) (P0_ : Nat → Prop) (u9000_ : Value) (l0 : List Int) (r1 : List Int) (r2 : Bool) (w0 w : World) (hB : Below w0.heap.size w0 w) (ho0 : Kd.R (Kd.int .i64) 3 w w0.heap.size P0_ u9000_ l0) (h : impl_told.f k l0 = some (r1, r2)) :
    Calls Try.prog 51 #[u9000_] w fun e w' => ∃ v0_ : Value, e = .returned (.tuple #[v0_, .bool r2]) ∧ Kd.R (Kd.int .i64) 3 w' w0.heap.size (fun k_ => (P0_ k_ ∨ w.heap.size ≤ k_)) v0_ r1 ∧ Below w0.heap.size w0 w' ∧ Kept w w' (fun k_ => P0_ k_) := by
  have HO0 := Aside0.mk (show Kd.R (Kd.int .i64) 3 w w0.heap.size (fun k_ => (P0_ k_ ∨ w.heap.size ≤ k_)) u9000_ l0 from Kd.R_mono ho0 (fun k_ hk => (.inl hk)))
  have HK := Aside0.mk (Kept.refl w (fun k_ => P0_ k_))
  have HW0 := Aside0.mk hB.size
  have HB := Aside0.mk hB
  clear hB
  have H : ((impl_isSignal.f k l0).bind fun t155 => (if t155 = true then (some (l0, true)) else (some (([] : List Int), false)))) = some (r1, r2) := h
  clear h
  replace H := Option.bind_eq_some_iff.mp H
  obtain ⟨t155, A20, H⟩ := H
  replace H : (if t155 = true then (some (l0, true)) else (some (([] : List Int), false))) = some (r1, r2) := H
  have A2 := Aside0.mk A20
  clear A20
  by_cases c3 : t155 = true
  · subst c3
    have H1 : (some (l0, true)) = some (r1, r2) := by rw [if_pos rfl] at H; exact H
    clear H
    have H := H1
    clear H1
    simp only [Option.some.injEq, Prod.mk.injEq] at H
    obtain ⟨rfl, rfl⟩ := H
    obtain ⟨Ao4, co4, eo4⟩ := Kd.R_slice HO0.out
    subst eo4
    go_enter Try.func51, Try.ntmps51
    go_wp2_with (first | ((with_reducible refine gate_callee (f := 41) rfl ?_); refine goesL_ (some 5) rfl rfl Try.func41 (by kernel_rfl) rfl #[.slice Ao4 l0.length co4] rfl (by (try simp only [List.map_toArray, List.map_cons, List.map_nil]); first | done | rfl | (simp only [List.length_drop, List.length_take]; rfl)) ?_; (with_reducible refine (impl_isSignal.calls k _ _ l0 true _ ?side1 ?side2 A2.out).mono ?_); (case side1 => repeat (first | exact (Kd.R_reads' HO0.out).2.2 | (with_reducible refine Kd.C_alloc ?_ _) | (with_reducible refine Kd.C_drewN ?_ _) | (with_reducible refine Kd.C_drew ?_))); (case side2 => exact (Kd.R_reads' HO0.out).2.1); rintro e w' ⟨rfl, ⟨nd, rfl⟩⟩; refine ⟨_, rfl, ?_⟩))
    go_ret2
    exact ⟨_, by first | rfl | (simp [errW_none, errW_some] <;> rfl) | (simp [*, errW_none, errW_some] <;> rfl), by (with_reducible repeat (first | apply Kd.R_alloc | apply Kd.R_drewN | apply Kd.R_drew)); exact HO0.out, by repeat (first | (with_reducible first | exact HB.out | apply below_alloc | apply pw_below_drewN | apply below_drew1) | exact HB.out), by repeat (first | (with_reducible first | exact HK.out | apply Kept.alloc | apply Kept.drewN | apply Kept.drew) | exact HK.out)⟩
  · replace c3 := Bool.eq_false_iff.mpr c3
    subst c3
    have H1 : (some (([] : List Int), false)) = some (r1, r2) := by rw [if_neg (show ¬ (false = true) by decide)] at H; exact H
    clear H
    have H := H1
    clear H1
    simp only [Option.some.injEq, Prod.mk.injEq] at H
    obtain ⟨rfl, rfl⟩ := H
    obtain ⟨Ao5, co5, eo5⟩ := Kd.R_slice HO0.out
    subst eo5
    go_enter Try.func51, Try.ntmps51
    go_wp2_with (first | ((with_reducible refine gate_callee (f := 41) rfl ?_); refine goesL_ (some 5) rfl rfl Try.func41 (by kernel_rfl) rfl #[.slice Ao5 l0.length co5] rfl (by (try simp only [List.map_toArray, List.map_cons, List.map_nil]); first | done | rfl | (simp only [List.length_drop, List.length_take]; rfl)) ?_; (with_reducible refine (impl_isSignal.calls k _ _ l0 false _ ?side1 ?side2 A2.out).mono ?_); (case side1 => repeat (first | exact (Kd.R_reads' HO0.out).2.2 | (with_reducible refine Kd.C_alloc ?_ _) | (with_reducible refine Kd.C_drewN ?_ _) | (with_reducible refine Kd.C_drew ?_))); (case side2 => exact (Kd.R_reads' HO0.out).2.1); rintro e w' ⟨rfl, ⟨nd, rfl⟩⟩; refine ⟨_, rfl, ?_⟩))
    go_ret2
    exact ⟨_, by first | rfl | (simp [errW_none, errW_some] <;> rfl) | (simp [*, errW_none, errW_some] <;> rfl), by first | exact Kd.R_nil _ _ _ _ _ | exact Kd.N_nil _ _ _ _ _ | exact Kd.V_nil _ _ _ _ _ | exact Kd.Q_nil _ _ _ _ _ | exact Kd.S_nil _ _ _ _ _, by repeat (first | (with_reducible first | exact HB.out | apply below_alloc | apply pw_below_drewN | apply below_drew1) | exact HB.out), by repeat (first | (with_reducible first | exact HK.out | apply Kept.alloc | apply Kept.drewN | apply Kept.drew) | exact HK.out)⟩

/-! ### impl_bitOf: function 72 -/
def impl_bitOf.f (a0 : Int) : Option (Int) := if a0 ≥ 0 then (some 1) else (some (-1))
set_option maxHeartbeats 8000000 in
set_option maxRecDepth 100000 in
theorem impl_bitOf.calls (a0 : Int) (r : Int) (w : World) (h : impl_bitOf.f a0 = some r) :
    Calls Try.prog 72 #[.int .i64 a0] w fun e w' => e = .returned (.int .i64 r) ∧ Drawn0 w w' := by
  have H : (if a0 ≥ 0 then (some 1) else (some (-1))) = some r := h
  clear h
  by_cases c2 : a0 ≥ 0
  · rw [if_pos c2] at H
    have c2b0 : decide (0 ≤ a0) = true := decide_eq_true c2
    clear c2
    obtain rfl := Option.some.inj H
    go_enter Try.func72, Try.ntmps72
    go_wp2
    go_ret
    exact ⟨by first | rfl | (simp; done) | (simp [*]; done), by repeat (first | exact Drawn0.refl _ | apply Drawn0.step)⟩
  · rw [if_neg c2] at H
    have c2b0 : decide (0 ≤ a0) = false := decide_eq_false c2
    clear c2
    obtain rfl := Option.some.inj H
    go_enter Try.func72, Try.ntmps72
    go_wp2
    go_ret
    exact ⟨by first | rfl | (simp; done) | (simp [*]; done), by repeat (first | exact Drawn0.refl _ | apply Drawn0.step)⟩

/-- A state of type 46 at block g of W; what its slices lead to came in by w0. -/
def IsS46 (w0 W : World) (g : Nat) (f0 : Int) (f1 : Int) (f2 : Int) (f3 : Bool) : Prop := W.heap[g]? = some (.cells #[.int .i64 f0, .int .i64 f1, .int .i64 f2, .bool f3] 46 (0, 0)) ∧ w0.heap.size ≤ g
theorem IsS46.grown {w0 W : World} {g : Nat} {f0 : Int} {f1 : Int} {f2 : Int} {f3 : Bool} {W1 : World} {row : Option Nat} (h : IsS46 w0 W g f0 f1 f2 f3) (hw : W.grownBy W1 row) (hne : some g ≠ row) : IsS46 w0 W1 g f0 f1 f2 f3 := by
  obtain ⟨hb, hg⟩ := h
  exact ⟨blk_grown hb hw hne, hg⟩
theorem IsS46.own_neN {w0 W : World} {g : Nat} {f0 : Int} {f1 : Int} {f2 : Int} {f3 : Bool} {α : Type} {d : Kd α} {e : Nat} {base : Nat} {ok : Nat → Prop} {v : Value} {xs : List α} (h : IsS46 w0 W g f0 f1 f2 f3) (ho : Kd.N d e W base ok v xs) (ht : e ≠ 46) : some g ≠ v.ownBlock := by
  obtain ⟨hb, hg⟩ := h
  exact Kd.N_ne ho hb ht
theorem IsS46.fresh {w0 W : World} {g : Nat} {f0 : Int} {f1 : Int} {f2 : Int} {f3 : Bool} (h : IsS46 w0 W g f0 f1 f2 f3) : ∀ k, W.heap.size ≤ k → k ≠ g := by
  obtain ⟨hb, hg⟩ := h
  exact Kd.freshB hb
theorem IsS46.kept {w0 W : World} {g : Nat} {f0 : Int} {f1 : Int} {f2 : Int} {f3 : Bool} {W1 : World} {S : Nat → Prop} (h : IsS46 w0 W g f0 f1 f2 f3) (hk : Kept W W1 S) (hne : ¬ S g) : IsS46 w0 W1 g f0 f1 f2 f3 := by
  obtain ⟨hb, hg⟩ := h
  exact ⟨blk_kept hb hk hne, hg⟩
theorem IsS46.below {w0 W : World} {g : Nat} {f0 : Int} {f1 : Int} {f2 : Int} {f3 : Bool} {W1 : World} (h : IsS46 w0 W g f0 f1 f2 f3) (hw : Below W.heap.size W W1) : IsS46 w0 W1 g f0 f1 f2 f3 := h.grown (grown_of_below hw none) (by simp)
theorem IsS46.alloc {w0 W : World} {g : Nat} {f0 : Int} {f1 : Int} {f2 : Int} {f3 : Bool} (h : IsS46 w0 W g f0 f1 f2 f3) (o : Obj) : IsS46 w0 (W.alloc o) g f0 f1 f2 f3 := h.below (below_alloc (Below.refl _ _) o)
theorem IsS46.drewN {w0 W : World} {g : Nat} {f0 : Int} {f1 : Int} {f2 : Int} {f3 : Bool} (h : IsS46 w0 W g f0 f1 f2 f3) (m : Nat) : IsS46 w0 (W.drewN m) g f0 f1 f2 f3 := h
theorem IsS46.drew {w0 W : World} {g : Nat} {f0 : Int} {f1 : Int} {f2 : Int} {f3 : Bool} (h : IsS46 w0 W g f0 f1 f2 f3) : IsS46 w0 W.drew g f0 f1 f2 f3 := h
theorem IsS46.at_ {w0 W : World} {g : Nat} {f0 : Int} {f1 : Int} {f2 : Int} {f3 : Bool} {w' : World} {m : Nat} (hq : W.drewN m = w') (h : IsS46 w0 W g f0 f1 f2 f3) : IsS46 w0 w' g f0 f1 f2 f3 := by subst hq; exact IsS46.drewN h m
theorem IsS46.apart {w0 W : World} {g : Nat} {f0 : Int} {f1 : Int} {f2 : Int} {f3 : Bool} {α : Type} {d : Kd α} {e : Nat} {base : Nat} {ok : Nat → Prop} {v : Value} {xs : List α} (h : IsS46 w0 W g f0 f1 f2 f3) (ho : d.R e W base ok v xs) (ht : ∀ q, q ∈ e :: d.E → q ≠ 46) : d.R e W base (fun k => ok k ∧ k ≠ g) v xs := by
  obtain ⟨hb, hg⟩ := h
  exact Kd.R_types ho hb ht
theorem IsS46.own_ne {w0 W : World} {g : Nat} {f0 : Int} {f1 : Int} {f2 : Int} {f3 : Bool} {α : Type} {d : Kd α} {e : Nat} {base : Nat} {ok : Nat → Prop} {v : Value} {xs : List α} (h : IsS46 w0 W g f0 f1 f2 f3) (ho : d.R e W base ok v xs) (ht : e ≠ 46) : some g ≠ v.ownBlock := by
  obtain ⟨hb, hg⟩ := h
  exact Kd.R_ne ho hb ht
theorem IsS46.apartQ {w0 W : World} {g : Nat} {f0 : Int} {f1 : Int} {f2 : Int} {f3 : Bool} {α : Type} {d : Kd α} {e : Nat} {base : Nat} {ok : Nat → Prop} {v : Value} {xs : List α} (h : IsS46 w0 W g f0 f1 f2 f3) (ho : d.Q e W base ok v xs) (ht : ∀ q, q ∈ e :: d.E → q ≠ 46) : d.Q e W base (fun k => ok k ∧ k ≠ g) v xs := by
  obtain ⟨hb, hg⟩ := h
  exact Kd.Q_types ho hb ht
theorem IsS46.own_neQ {w0 W : World} {g : Nat} {f0 : Int} {f1 : Int} {f2 : Int} {f3 : Bool} {α : Type} {d : Kd α} {e : Nat} {base : Nat} {ok : Nat → Prop} {v : Value} {xs : List α} (h : IsS46 w0 W g f0 f1 f2 f3) (ho : d.Q e W base ok v xs) (ht : e ≠ 46) : some g ≠ v.ownBlock := by
  obtain ⟨hb, hg⟩ := h
  exact Kd.Q_ne ho hb ht
theorem IsS46.apartS {w0 W : World} {g : Nat} {f0 : Int} {f1 : Int} {f2 : Int} {f3 : Bool} {α : Type} {d : Kd α} {e : Nat} {base : Nat} {ok : Nat → Prop} {v : Value} {xs : List α} (h : IsS46 w0 W g f0 f1 f2 f3) (ho : d.S e W base ok v xs) (ht : ∀ q, q ∈ e :: d.E → q ≠ 46) : d.S e W base (fun k => ok k ∧ k ≠ g) v xs := by
  obtain ⟨hb, hg⟩ := h
  exact Kd.S_types ho hb ht
theorem IsS46.own_neS {w0 W : World} {g : Nat} {f0 : Int} {f1 : Int} {f2 : Int} {f3 : Bool} {α : Type} {d : Kd α} {e : Nat} {base : Nat} {ok : Nat → Prop} {v : Value} {xs : List α} (h : IsS46 w0 W g f0 f1 f2 f3) (ho : d.S e W base ok v xs) (ht : e ≠ 46) : some g ≠ v.ownBlock := by
  obtain ⟨hb, hg⟩ := h
  exact Kd.S_ne ho hb ht
theorem IsS46.lt {w0 W : World} {g : Nat} {f0 : Int} {f1 : Int} {f2 : Int} {f3 : Bool} (h : IsS46 w0 W g f0 f1 f2 f3) : g < W.heap.size := by
  obtain ⟨hb, hg⟩ := h
  exact blk_lt hb
theorem IsS46.ge {w0 W : World} {g : Nat} {f0 : Int} {f1 : Int} {f2 : Int} {f3 : Bool} (h : IsS46 w0 W g f0 f1 f2 f3) : w0.heap.size ≤ g := by
  obtain ⟨hb, hg⟩ := h
  exact hg
theorem IsS46.ne_blk {w0 W : World} {g : Nat} {f0 : Int} {f1 : Int} {f2 : Int} {f3 : Bool} {a : Nat} {cs : Array Value} {t : TypeId} {fr : Nat × Nat} (h : IsS46 w0 W g f0 f1 f2 f3) (hb2 : W.heap[a]? = some (.cells cs t fr)) (ht : t ≠ 46) : g ≠ a := by
  obtain ⟨hb, hg⟩ := h
  rintro rfl
  rw [hb] at hb2
  injection hb2 with hb2
  injection hb2 with _ ht2
  exact ht ht2.symm
theorem IsS46.far {w0 W : World} {g : Nat} {f0 : Int} {f1 : Int} {f2 : Int} {f3 : Bool} {p : Addr} (h : IsS46 w0 W g f0 f1 f2 f3) (hne : g ≠ p.block) (u : Value) : IsS46 w0 (W.setCell p u) g f0 f1 f2 f3 := by
  obtain ⟨hb, hg⟩ := h
  exact ⟨blk_far hb hne u, hg⟩
theorem cellS46_0 {W : World} {g : Nat} {f0 : Int} {f1 : Int} {f2 : Int} {f3 : Bool} (h : W.heap[g]? = some (.cells #[.int .i64 f0, .int .i64 f1, .int .i64 f2, .bool f3] 46 (0, 0))) : W.cell? ⟨g, 0, none⟩ = some (.int .i64 f0) := (blk_cell h 0).trans rfl
theorem IsS46.set_0 {w0 W : World} {g : Nat} {f0 : Int} {f1 : Int} {f2 : Int} {f3 : Bool} (h : IsS46 w0 W g f0 f1 f2 f3) (x : Int) : IsS46 w0 (W.setCell ⟨g, 0, none⟩ (.int .i64 x)) g x f1 f2 f3 := by
  obtain ⟨hb, hg⟩ := h
  exact ⟨by simpa using blk_set hb 0 (.int .i64 x), hg⟩
theorem cellS46_1 {W : World} {g : Nat} {f0 : Int} {f1 : Int} {f2 : Int} {f3 : Bool} (h : W.heap[g]? = some (.cells #[.int .i64 f0, .int .i64 f1, .int .i64 f2, .bool f3] 46 (0, 0))) : W.cell? ⟨g, 1, none⟩ = some (.int .i64 f1) := (blk_cell h 1).trans rfl
theorem IsS46.set_1 {w0 W : World} {g : Nat} {f0 : Int} {f1 : Int} {f2 : Int} {f3 : Bool} (h : IsS46 w0 W g f0 f1 f2 f3) (x : Int) : IsS46 w0 (W.setCell ⟨g, 1, none⟩ (.int .i64 x)) g f0 x f2 f3 := by
  obtain ⟨hb, hg⟩ := h
  exact ⟨by simpa using blk_set hb 1 (.int .i64 x), hg⟩
theorem cellS46_2 {W : World} {g : Nat} {f0 : Int} {f1 : Int} {f2 : Int} {f3 : Bool} (h : W.heap[g]? = some (.cells #[.int .i64 f0, .int .i64 f1, .int .i64 f2, .bool f3] 46 (0, 0))) : W.cell? ⟨g, 2, none⟩ = some (.int .i64 f2) := (blk_cell h 2).trans rfl
theorem IsS46.set_2 {w0 W : World} {g : Nat} {f0 : Int} {f1 : Int} {f2 : Int} {f3 : Bool} (h : IsS46 w0 W g f0 f1 f2 f3) (x : Int) : IsS46 w0 (W.setCell ⟨g, 2, none⟩ (.int .i64 x)) g f0 f1 x f3 := by
  obtain ⟨hb, hg⟩ := h
  exact ⟨by simpa using blk_set hb 2 (.int .i64 x), hg⟩
theorem cellS46_3 {W : World} {g : Nat} {f0 : Int} {f1 : Int} {f2 : Int} {f3 : Bool} (h : W.heap[g]? = some (.cells #[.int .i64 f0, .int .i64 f1, .int .i64 f2, .bool f3] 46 (0, 0))) : W.cell? ⟨g, 3, none⟩ = some (.bool f3) := (blk_cell h 3).trans rfl
theorem IsS46.set_3 {w0 W : World} {g : Nat} {f0 : Int} {f1 : Int} {f2 : Int} {f3 : Bool} (h : IsS46 w0 W g f0 f1 f2 f3) (x : Bool) : IsS46 w0 (W.setCell ⟨g, 3, none⟩ (.bool x)) g f0 f1 f2 x := by
  obtain ⟨hb, hg⟩ := h
  exact ⟨by simpa using blk_set hb 3 (.bool x), hg⟩
theorem IsS46.new (w0 W : World) (f0 : Int) (f1 : Int) (f2 : Int) (f3 : Bool) (hB : Below w0.heap.size w0 W) : IsS46 w0 (W.alloc (.cells #[.int .i64 f0, .int .i64 f1, .int .i64 f2, .bool f3] 46)) W.heap.size f0 f1 f2 f3 := ⟨by simpa using heap_alloc_new W _, hB.size⟩

/-! ### impl_stepper_take: function 73 -/
def impl_stepper_take.f (s0_0 : Int) (s0_1 : Int) (s0_2 : Int) (s0_3 : Bool) (a1 : Int) : Option (Int × Int × Int × Bool) := if s0_3 = true then (some (wrap64 (s0_0 + (wrap64 (s0_1 * a1))), s0_1, a1, s0_3)) else (if s0_2 = 0 then (some (wrap64 (s0_0 + (wrap64 (s0_1 * a1))), s0_1, a1, s0_3)) else (if a1 = s0_2 then (if 4096 < (wrap64 (2 * s0_1)) then (some (wrap64 (s0_0 + (wrap64 (4096 * a1))), 4096, a1, s0_3)) else (some (wrap64 (s0_0 + (wrap64 ((wrap64 (2 * s0_1)) * a1))), (wrap64 (2 * s0_1)), a1, s0_3))) else (if (wrap64 (Int.tdiv s0_1 2)) < 1 then (some (wrap64 (s0_0 + (wrap64 a1)), 1, a1, s0_3)) else (some (wrap64 (s0_0 + (wrap64 ((wrap64 (Int.tdiv s0_1 2)) * a1))), (wrap64 (Int.tdiv s0_1 2)), a1, s0_3)))))
set_option maxHeartbeats 8000000 in
set_option maxRecDepth 100000 in
theorem impl_stepper_take.calls (g : Nat) (s0_0 : Int) (s0_1 : Int) (s0_2 : Int) (s0_3 : Bool) (a1 : Int) (r1 : Int) (r2 : Int) (r3 : Int) (r4 : Bool) (w0 w : World) (hI : IsS46 w0 w g s0_0 s0_1 s0_2 s0_3) (hB : Below w0.heap.size w0 w) (h : impl_stepper_take.f s0_0 s0_1 s0_2 s0_3 a1 = some (r1, r2, r3, r4)) :
    Calls Try.prog 73 #[.pointer (some ⟨g, 0, none⟩), .int .i64 a1] w fun e w' => e = .returned (.tuple #[]) ∧ IsS46 w0 w' g r1 r2 r3 r4 ∧ Below w0.heap.size w0 w' ∧ KeepBut w w' g none := by
  have HI0 := Aside0.mk hI
  have HK := Aside0.mk (KeepBut.refl w g none)
  clear hI
  have HB := Aside0.mk hB
  clear hB
  unfold impl_stepper_take.f at h
  by_cases c3 : s0_3 = true
  · rw [if_pos c3] at h
    subst c3
    simp only [Option.some.injEq, Prod.mk.injEq] at h
    obtain ⟨rfl, rfl, rfl, rfl⟩ := h
    obtain ⟨HG, hg⟩ := HI0.out
    have hc_0 := cellS46_0 HG
    have hc_1 := cellS46_1 HG
    have hc_2 := cellS46_2 HG
    have hc_3 := cellS46_3 HG
    have hf_0 := blk_frozen HG 0
    have hf_1 := blk_frozen HG 1
    have hf_2 := blk_frozen HG 2
    have hf_3 := blk_frozen HG 3
    clear HG hg
    go_enter Try.func73, Try.ntmps73
    go_wp2
    repeat (go_quiet (fail); try go_wp2)
    refine wp_region_still_tail 13 (by kernel_rfl) (by kernel_rfl) ?_
    change wpStill _ _ (World.drew (World.setCell w ⟨g, 2, none⟩ (.int .i64 a1))) (fun a' => wpList _ _ _ _ a' (World.drew (World.setCell w ⟨g, 2, none⟩ (.int .i64 a1)))) _ _
    generalize hW2 : World.drew (World.setCell w ⟨g, 2, none⟩ (.int .i64 a1)) = W2
    have HI1 : IsS46 w0 W2 g s0_0 s0_1 a1 true := by
      rw [← hW2]
      exact IsS46.drew (IsS46.set_2 HI0.out a1)
    have HB1 : Below w0.heap.size w0 W2 := by
      rw [← hW2]
      repeat (with_reducible first | exact HB.out | apply below_drew1 | refine below_set ?_ (IsS46.ge HI0.out))
    have HK1 : KeepBut w W2 g none := by
      rw [← hW2]
      repeat (with_reducible first | exact HK.out | apply keep_drew | apply KeepBut.set_)
    clear hW2 hc_0 hc_1 hc_2 hc_3 hf_0 hf_1 hf_2 hf_3
    replace HI1 := Aside0.mk HI1
    replace HB1 := Aside0.mk HB1
    replace HK1 := Aside0.mk HK1
    obtain ⟨HG, hg⟩ := HI1.out
    have hc_0 := cellS46_0 HG
    have hc_1 := cellS46_1 HG
    have hf_0 := blk_frozen HG 0
    clear HG hg
    simp only [List.take_succ_cons, List.take_zero, List.drop_succ_cons, List.drop_zero]
    repeat still_step
    try refine wpStill_nil ?_
    go_wp2
    (first | go_end0 | ((try simp only [Exit.inBlock, Exit.then]); refine bodyPost_ret (results_none rfl _ _ _) rfl ?_))
    exact ⟨by first | rfl | (simp; done), by repeat (first | (with_reducible first | exact HI1.out | apply IsS46.set_0) | exact HI1.out), by repeat (first | (with_reducible first | exact HB1.out | refine below_set ?_ (IsS46.ge HI1.out)) | exact HB1.out), by repeat (first | (with_reducible first | exact HK1.out | apply KeepBut.set_) | exact HK1.out)⟩
  · rw [if_neg c3] at h
    have c3' : s0_3 = false := by simpa using c3
    subst c3'
    clear c3
    by_cases c2 : s0_2 = 0
    · rw [if_pos c2] at h
      subst c2
      simp only [Option.some.injEq, Prod.mk.injEq] at h
      obtain ⟨rfl, rfl, rfl, rfl⟩ := h
      obtain ⟨HG, hg⟩ := HI0.out
      have hc_0 := cellS46_0 HG
      have hc_1 := cellS46_1 HG
      have hc_2 := cellS46_2 HG
      have hc_3 := cellS46_3 HG
      have hf_0 := blk_frozen HG 0
      have hf_1 := blk_frozen HG 1
      have hf_2 := blk_frozen HG 2
      have hf_3 := blk_frozen HG 3
      clear HG hg
      go_enter Try.func73, Try.ntmps73
      go_wp2
      repeat (go_quiet (fail); try go_wp2)
      refine wp_region_still_tail 13 (by kernel_rfl) (by kernel_rfl) ?_
      change wpStill _ _ (World.drew (World.setCell w ⟨g, 2, none⟩ (.int .i64 a1))) (fun a' => wpList _ _ _ _ a' (World.drew (World.setCell w ⟨g, 2, none⟩ (.int .i64 a1)))) _ _
      generalize hW2 : World.drew (World.setCell w ⟨g, 2, none⟩ (.int .i64 a1)) = W2
      have HI1 : IsS46 w0 W2 g s0_0 s0_1 a1 false := by
        rw [← hW2]
        exact IsS46.drew (IsS46.set_2 HI0.out a1)
      have HB1 : Below w0.heap.size w0 W2 := by
        rw [← hW2]
        repeat (with_reducible first | exact HB.out | apply below_drew1 | refine below_set ?_ (IsS46.ge HI0.out))
      have HK1 : KeepBut w W2 g none := by
        rw [← hW2]
        repeat (with_reducible first | exact HK.out | apply keep_drew | apply KeepBut.set_)
      clear hW2 hc_0 hc_1 hc_2 hc_3 hf_0 hf_1 hf_2 hf_3
      replace HI1 := Aside0.mk HI1
      replace HB1 := Aside0.mk HB1
      replace HK1 := Aside0.mk HK1
      obtain ⟨HG, hg⟩ := HI1.out
      have hc_0 := cellS46_0 HG
      have hc_1 := cellS46_1 HG
      have hf_0 := blk_frozen HG 0
      clear HG hg
      simp only [List.take_succ_cons, List.take_zero, List.drop_succ_cons, List.drop_zero]
      repeat still_step
      try refine wpStill_nil ?_
      go_wp2
      (first | go_end0 | ((try simp only [Exit.inBlock, Exit.then]); refine bodyPost_ret (results_none rfl _ _ _) rfl ?_))
      exact ⟨by first | rfl | (simp; done), by repeat (first | (with_reducible first | exact HI1.out | apply IsS46.set_0) | exact HI1.out), by repeat (first | (with_reducible first | exact HB1.out | refine below_set ?_ (IsS46.ge HI1.out)) | exact HB1.out), by repeat (first | (with_reducible first | exact HK1.out | apply KeepBut.set_) | exact HK1.out)⟩
    · rw [if_neg c2] at h
      have c2b0 : (s0_2 == 0) = false := beq_eq_false_iff_ne.mpr c2
      clear c2
      by_cases c1 : a1 = s0_2
      · rw [if_pos c1] at h
        have c1b0 : (a1 == s0_2) = true := beq_iff_eq.mpr c1
        clear c1
        by_cases c5 : 4096 < (wrap64 (2 * s0_1))
        · rw [if_pos c5] at h
          have c5b0 : decide (4096 < (wrap64 (2 * s0_1))) = true := decide_eq_true c5
          simp only [Option.some.injEq, Prod.mk.injEq] at h
          obtain ⟨rfl, rfl, rfl, rfl⟩ := h
          obtain ⟨HG, hg⟩ := HI0.out
          have hc_0 := cellS46_0 HG
          have hc_1 := cellS46_1 HG
          have hc_2 := cellS46_2 HG
          have hc_3 := cellS46_3 HG
          have hf_0 := blk_frozen HG 0
          have hf_1 := blk_frozen HG 1
          have hf_2 := blk_frozen HG 2
          have hf_3 := blk_frozen HG 3
          clear HG hg
          go_enter Try.func73, Try.ntmps73
          go_wp2
          repeat (go_quiet (fail); try go_wp2)
          refine wp_region_still_tail 13 (by kernel_rfl) (by kernel_rfl) ?_
          change wpStill _ _ (World.drew (World.setCell (World.setCell w ⟨g, 1, none⟩ (.int .i64 4096)) ⟨g, 2, none⟩ (.int .i64 a1))) (fun a' => wpList _ _ _ _ a' (World.drew (World.setCell (World.setCell w ⟨g, 1, none⟩ (.int .i64 4096)) ⟨g, 2, none⟩ (.int .i64 a1)))) _ _
          generalize hW2 : World.drew (World.setCell (World.setCell w ⟨g, 1, none⟩ (.int .i64 4096)) ⟨g, 2, none⟩ (.int .i64 a1)) = W2
          have HI1 : IsS46 w0 W2 g s0_0 4096 a1 false := by
            rw [← hW2]
            exact IsS46.drew (IsS46.set_2 (IsS46.set_1 HI0.out 4096) a1)
          have HB1 : Below w0.heap.size w0 W2 := by
            rw [← hW2]
            repeat (with_reducible first | exact HB.out | apply below_drew1 | refine below_set ?_ (IsS46.ge HI0.out))
          have HK1 : KeepBut w W2 g none := by
            rw [← hW2]
            repeat (with_reducible first | exact HK.out | apply keep_drew | apply KeepBut.set_)
          clear hW2 hc_0 hc_1 hc_2 hc_3 hf_0 hf_1 hf_2 hf_3
          replace HI1 := Aside0.mk HI1
          replace HB1 := Aside0.mk HB1
          replace HK1 := Aside0.mk HK1
          obtain ⟨HG, hg⟩ := HI1.out
          have hc_0 := cellS46_0 HG
          have hc_1 := cellS46_1 HG
          have hf_0 := blk_frozen HG 0
          clear HG hg
          simp only [List.take_succ_cons, List.take_zero, List.drop_succ_cons, List.drop_zero]
          repeat still_step
          try refine wpStill_nil ?_
          go_wp2
          (first | go_end0 | ((try simp only [Exit.inBlock, Exit.then]); refine bodyPost_ret (results_none rfl _ _ _) rfl ?_))
          exact ⟨by first | rfl | (simp; done), by repeat (first | (with_reducible first | exact HI1.out | apply IsS46.set_0) | exact HI1.out), by repeat (first | (with_reducible first | exact HB1.out | refine below_set ?_ (IsS46.ge HI1.out)) | exact HB1.out), by repeat (first | (with_reducible first | exact HK1.out | apply KeepBut.set_) | exact HK1.out)⟩
        · rw [if_neg c5] at h
          have c5b0 : decide (4096 < (wrap64 (2 * s0_1))) = false := decide_eq_false c5
          simp only [Option.some.injEq, Prod.mk.injEq] at h
          obtain ⟨rfl, rfl, rfl, rfl⟩ := h
          obtain ⟨HG, hg⟩ := HI0.out
          have hc_0 := cellS46_0 HG
          have hc_1 := cellS46_1 HG
          have hc_2 := cellS46_2 HG
          have hc_3 := cellS46_3 HG
          have hf_0 := blk_frozen HG 0
          have hf_1 := blk_frozen HG 1
          have hf_2 := blk_frozen HG 2
          have hf_3 := blk_frozen HG 3
          clear HG hg
          go_enter Try.func73, Try.ntmps73
          go_wp2
          repeat (go_quiet (fail); try go_wp2)
          refine wp_region_still_tail 13 (by kernel_rfl) (by kernel_rfl) ?_
          change wpStill _ _ (World.drew (World.setCell (World.setCell w ⟨g, 1, none⟩ (.int .i64 (wrap64 (2 * s0_1)))) ⟨g, 2, none⟩ (.int .i64 a1))) (fun a' => wpList _ _ _ _ a' (World.drew (World.setCell (World.setCell w ⟨g, 1, none⟩ (.int .i64 (wrap64 (2 * s0_1)))) ⟨g, 2, none⟩ (.int .i64 a1)))) _ _
          generalize hW2 : World.drew (World.setCell (World.setCell w ⟨g, 1, none⟩ (.int .i64 (wrap64 (2 * s0_1)))) ⟨g, 2, none⟩ (.int .i64 a1)) = W2
          have HI1 : IsS46 w0 W2 g s0_0 (wrap64 (2 * s0_1)) a1 false := by
            rw [← hW2]
            exact IsS46.drew (IsS46.set_2 (IsS46.set_1 HI0.out (wrap64 (2 * s0_1))) a1)
          have HB1 : Below w0.heap.size w0 W2 := by
            rw [← hW2]
            repeat (with_reducible first | exact HB.out | apply below_drew1 | refine below_set ?_ (IsS46.ge HI0.out))
          have HK1 : KeepBut w W2 g none := by
            rw [← hW2]
            repeat (with_reducible first | exact HK.out | apply keep_drew | apply KeepBut.set_)
          clear hW2 hc_0 hc_1 hc_2 hc_3 hf_0 hf_1 hf_2 hf_3
          replace HI1 := Aside0.mk HI1
          replace HB1 := Aside0.mk HB1
          replace HK1 := Aside0.mk HK1
          obtain ⟨HG, hg⟩ := HI1.out
          have hc_0 := cellS46_0 HG
          have hc_1 := cellS46_1 HG
          have hf_0 := blk_frozen HG 0
          clear HG hg
          simp only [List.take_succ_cons, List.take_zero, List.drop_succ_cons, List.drop_zero]
          repeat still_step
          try refine wpStill_nil ?_
          go_wp2
          (first | go_end0 | ((try simp only [Exit.inBlock, Exit.then]); refine bodyPost_ret (results_none rfl _ _ _) rfl ?_))
          exact ⟨by first | rfl | (simp; done), by repeat (first | (with_reducible first | exact HI1.out | apply IsS46.set_0) | exact HI1.out), by repeat (first | (with_reducible first | exact HB1.out | refine below_set ?_ (IsS46.ge HI1.out)) | exact HB1.out), by repeat (first | (with_reducible first | exact HK1.out | apply KeepBut.set_) | exact HK1.out)⟩
      · rw [if_neg c1] at h
        have c1b0 : (a1 == s0_2) = false := beq_eq_false_iff_ne.mpr c1
        clear c1
        by_cases c5 : (wrap64 (Int.tdiv s0_1 2)) < 1
        · rw [if_pos c5] at h
          have c5b0 : decide ((wrap64 (Int.tdiv s0_1 2)) < 1) = true := decide_eq_true c5
          simp only [Option.some.injEq, Prod.mk.injEq] at h
          obtain ⟨rfl, rfl, rfl, rfl⟩ := h
          obtain ⟨HG, hg⟩ := HI0.out
          have hc_0 := cellS46_0 HG
          have hc_1 := cellS46_1 HG
          have hc_2 := cellS46_2 HG
          have hc_3 := cellS46_3 HG
          have hf_0 := blk_frozen HG 0
          have hf_1 := blk_frozen HG 1
          have hf_2 := blk_frozen HG 2
          have hf_3 := blk_frozen HG 3
          clear HG hg
          go_enter Try.func73, Try.ntmps73
          go_wp2
          repeat (go_quiet (fail); try go_wp2)
          refine wp_region_still_tail 13 (by kernel_rfl) (by kernel_rfl) ?_
          change wpStill _ _ (World.drew (World.setCell (World.setCell w ⟨g, 1, none⟩ (.int .i64 1)) ⟨g, 2, none⟩ (.int .i64 a1))) (fun a' => wpList _ _ _ _ a' (World.drew (World.setCell (World.setCell w ⟨g, 1, none⟩ (.int .i64 1)) ⟨g, 2, none⟩ (.int .i64 a1)))) _ _
          generalize hW2 : World.drew (World.setCell (World.setCell w ⟨g, 1, none⟩ (.int .i64 1)) ⟨g, 2, none⟩ (.int .i64 a1)) = W2
          have HI1 : IsS46 w0 W2 g s0_0 1 a1 false := by
            rw [← hW2]
            exact IsS46.drew (IsS46.set_2 (IsS46.set_1 HI0.out 1) a1)
          have HB1 : Below w0.heap.size w0 W2 := by
            rw [← hW2]
            repeat (with_reducible first | exact HB.out | apply below_drew1 | refine below_set ?_ (IsS46.ge HI0.out))
          have HK1 : KeepBut w W2 g none := by
            rw [← hW2]
            repeat (with_reducible first | exact HK.out | apply keep_drew | apply KeepBut.set_)
          clear hW2 hc_0 hc_1 hc_2 hc_3 hf_0 hf_1 hf_2 hf_3
          replace HI1 := Aside0.mk HI1
          replace HB1 := Aside0.mk HB1
          replace HK1 := Aside0.mk HK1
          obtain ⟨HG, hg⟩ := HI1.out
          have hc_0 := cellS46_0 HG
          have hc_1 := cellS46_1 HG
          have hf_0 := blk_frozen HG 0
          clear HG hg
          simp only [List.take_succ_cons, List.take_zero, List.drop_succ_cons, List.drop_zero]
          repeat still_step
          try refine wpStill_nil ?_
          go_wp2
          (first | go_end0 | ((try simp only [Exit.inBlock, Exit.then]); refine bodyPost_ret (results_none rfl _ _ _) rfl ?_))
          exact ⟨by first | rfl | (simp; done), by repeat (first | (with_reducible first | exact HI1.out | apply IsS46.set_0) | exact HI1.out), by repeat (first | (with_reducible first | exact HB1.out | refine below_set ?_ (IsS46.ge HI1.out)) | exact HB1.out), by repeat (first | (with_reducible first | exact HK1.out | apply KeepBut.set_) | exact HK1.out)⟩
        · rw [if_neg c5] at h
          have c5b0 : decide ((wrap64 (Int.tdiv s0_1 2)) < 1) = false := decide_eq_false c5
          simp only [Option.some.injEq, Prod.mk.injEq] at h
          obtain ⟨rfl, rfl, rfl, rfl⟩ := h
          obtain ⟨HG, hg⟩ := HI0.out
          have hc_0 := cellS46_0 HG
          have hc_1 := cellS46_1 HG
          have hc_2 := cellS46_2 HG
          have hc_3 := cellS46_3 HG
          have hf_0 := blk_frozen HG 0
          have hf_1 := blk_frozen HG 1
          have hf_2 := blk_frozen HG 2
          have hf_3 := blk_frozen HG 3
          clear HG hg
          go_enter Try.func73, Try.ntmps73
          go_wp2
          repeat (go_quiet (fail); try go_wp2)
          refine wp_region_still_tail 13 (by kernel_rfl) (by kernel_rfl) ?_
          change wpStill _ _ (World.drew (World.setCell (World.setCell w ⟨g, 1, none⟩ (.int .i64 (wrap64 (Int.tdiv s0_1 2)))) ⟨g, 2, none⟩ (.int .i64 a1))) (fun a' => wpList _ _ _ _ a' (World.drew (World.setCell (World.setCell w ⟨g, 1, none⟩ (.int .i64 (wrap64 (Int.tdiv s0_1 2)))) ⟨g, 2, none⟩ (.int .i64 a1)))) _ _
          generalize hW2 : World.drew (World.setCell (World.setCell w ⟨g, 1, none⟩ (.int .i64 (wrap64 (Int.tdiv s0_1 2)))) ⟨g, 2, none⟩ (.int .i64 a1)) = W2
          have HI1 : IsS46 w0 W2 g s0_0 (wrap64 (Int.tdiv s0_1 2)) a1 false := by
            rw [← hW2]
            exact IsS46.drew (IsS46.set_2 (IsS46.set_1 HI0.out (wrap64 (Int.tdiv s0_1 2))) a1)
          have HB1 : Below w0.heap.size w0 W2 := by
            rw [← hW2]
            repeat (with_reducible first | exact HB.out | apply below_drew1 | refine below_set ?_ (IsS46.ge HI0.out))
          have HK1 : KeepBut w W2 g none := by
            rw [← hW2]
            repeat (with_reducible first | exact HK.out | apply keep_drew | apply KeepBut.set_)
          clear hW2 hc_0 hc_1 hc_2 hc_3 hf_0 hf_1 hf_2 hf_3
          replace HI1 := Aside0.mk HI1
          replace HB1 := Aside0.mk HB1
          replace HK1 := Aside0.mk HK1
          obtain ⟨HG, hg⟩ := HI1.out
          have hc_0 := cellS46_0 HG
          have hc_1 := cellS46_1 HG
          have hf_0 := blk_frozen HG 0
          clear HG hg
          simp only [List.take_succ_cons, List.take_zero, List.drop_succ_cons, List.drop_zero]
          repeat still_step
          try refine wpStill_nil ?_
          go_wp2
          (first | go_end0 | ((try simp only [Exit.inBlock, Exit.then]); refine bodyPost_ret (results_none rfl _ _ _) rfl ?_))
          exact ⟨by first | rfl | (simp; done), by repeat (first | (with_reducible first | exact HI1.out | apply IsS46.set_0) | exact HI1.out), by repeat (first | (with_reducible first | exact HB1.out | refine below_set ?_ (IsS46.ge HI1.out)) | exact HB1.out), by repeat (first | (with_reducible first | exact HK1.out | apply KeepBut.set_) | exact HK1.out)⟩

end Go.Proofs.Ytkfbaiabaplahaa.PFnExactStepGaps
