/- What each Go function that the statement FnPhasesWork reaches answers, proved call by call. No condition beyond those that the theorems print. (Written by wip/tools/xprint.py of this repo, over the kit's print.) -/
import Derived.Test.YtjplcongellcmaaPFnPhasesWorkx0
import Derived.Test.YtjplcongellcmaaPFnPhasesWorkx1
import Derived.Test.YtjplcongellcmaaPFnPhasesWorkx2
import Derived.Test.YtjplcongellcmaaPFnPhasesWorkx3
import Derived.Test.YtjplcongellcmaaPFnPhasesWorkx5
import Derived.Test.YtjplcongellcmaaPFnPhasesWorkx10
namespace Go.Proofs.Ytjplcongellcmaa.PFnPhasesWork
open Go.RowKit Go.Proofs.YtjplcongellcmaaW.PrintWords Go.Proofs.YtjplcongellcmaaW.PrintLast Go.Proofs.YtjplcongellcmaaW.PrintMore
attribute [local go_sem] max2_int min2_int max_two min_two max_three min_three max_four min_four   -- for this text's walks alone
set_option linter.unusedVariables false
set_option linter.unusedSimpArgs false

/-! ### spec_JoinPhases: function 173 -/
mutual
def spec_JoinPhases.l0 : Nat → List (List Int) → Int → Int → List (List Int) → Int → Int → Option (List Int × Bool)
 | 0, _, _, _, _, _, _ => none
 | k + 1, x0, x4, x5, x16, x17, x18 => if x18 < x17 then (if 0 ≤ x18 then (if x18 < (x16.length : Int) then (if ((rd_L2 x16 x18).length : Int) > 9 then (some (([] : List Int), false)) else (spec_JoinPhases.l0 k x0 x4 (wrap64 (x5 + ((rd_L2 x16 x18).length : Int))) x16 x17 (wrap64 (x18 + 1)))) else (none)) else (none)) else (spec_JoinPhases.l1 k x0 x4 x5 ([] : List Int) 0)
def spec_JoinPhases.l1 : Nat → List (List Int) → Int → Int → List Int → Int → Option (List Int × Bool)
 | 0, _, _, _, _, _ => none
 | k + 1, x0, x4, x5, x8, x9 => if x9 < x5 then (if x4 = 0 then (none) else (if 0 ≤ (Int.tmod x9 x4) then (if (Int.tmod x9 x4) < (x0.length : Int) then (if (wrap64 (Int.tdiv x9 x4)) ≥ ((rd_L2 x0 (Int.tmod x9 x4)).length : Int) then (some (([] : List Int), false)) else (if 0 ≤ (wrap64 (Int.tdiv x9 x4)) then (if (wrap64 (Int.tdiv x9 x4)) < ((rd_L2 x0 (Int.tmod x9 x4)).length : Int) then (if x8.length < 17592186044416 then (spec_JoinPhases.l1 k x0 x4 x5 (x8 ++ [rd (rd_L2 x0 (Int.tmod x9 x4)) (wrap64 (Int.tdiv x9 x4))]) (wrap64 (x9 + 1))) else (none)) else (none)) else (none))) else (none)) else (none))) else ((spec_weIf.f k x8).bind fun bt545 => (some (bt545.1, bt545.2)))
end
def spec_JoinPhases.f (k : Nat) (l0 : List (List Int)) : Option (List Int × Bool) := (spec_l1In.f (l0.length : Int) 1 8).bind fun t538 => (if t538 = true then (spec_JoinPhases.l0 k l0 (l0.length : Int) 0 l0 (l0.length : Int) 0) else (some (([] : List Int), false)))
theorem spec_JoinPhases.mono_l : ∀ k, (∀ y0 y1 y2 y3 y4 y5, LeO (spec_JoinPhases.l0 k y0 y1 y2 y3 y4 y5) (spec_JoinPhases.l0 (k + 1) y0 y1 y2 y3 y4 y5)) ∧ (∀ y0 y1 y2 y3 y4, LeO (spec_JoinPhases.l1 k y0 y1 y2 y3 y4) (spec_JoinPhases.l1 (k + 1) y0 y1 y2 y3 y4))
 | 0 => ⟨fun _ _ _ _ _ _ r h => by simp [spec_JoinPhases.l0] at h, fun _ _ _ _ _ r h => by simp [spec_JoinPhases.l1] at h⟩
 | k + 1 => by
  obtain ⟨ih0, ih1⟩ := spec_JoinPhases.mono_l k
  have m0 := @spec_weIf.mono
  refine ⟨?_, ?_⟩ <;> intros
  ·unfold spec_JoinPhases.l0; exact xM
  ·unfold spec_JoinPhases.l1; exact xM
theorem spec_JoinPhases.mono : ∀ a0 k, LeO (spec_JoinPhases.f k a0) (spec_JoinPhases.f (k + 1) a0) := by
 intro a0 k
 obtain ⟨ih0, ih1⟩ := spec_JoinPhases.mono_l k
 have m0 := @spec_weIf.mono
 unfold spec_JoinPhases.f
 exact xM
set_option maxHeartbeats 8000000 in
set_option maxRecDepth 100000 in
theorem spec_JoinPhases.calls (k : Nat) (A0 : Option Addr) (c0 : Nat) (l0 : List (List Int)) (r1 : List Int) (r2 : Bool) (w : World) (hr0 : Kd.C (Kd.slice 3 (Kd.int .i64)) w A0 l0.length l0) (hc0 : l0.length ≤ c0) (h : spec_JoinPhases.f k l0 = some (r1, r2)) :
  Calls Try.prog 173 #[.slice A0 l0.length c0] w fun e w' => ∃ v0_ : Value, e = .returned (.tuple #[v0_, .bool r2]) ∧ Kd.R (Kd.int .i64) 3 w' w.heap.size (fun _ => True) v0_ r1 ∧ Below w.heap.size w w' := by
 have HR0 := Aside0.mk hr0
 have HC0 := Aside0.mk hc0
 clear hr0 hc0
 have HB := Aside0.mk (Below.refl w.heap.size w)
 have H : ((spec_l1In.f (l0.length : Int) 1 8).bind fun t538 => (if t538 = true then (spec_JoinPhases.l0 k l0 (l0.length : Int) 0 l0 (l0.length : Int) 0) else (some (([] : List Int), false)))) = some (r1, r2) := h
 clear h
 obtain ⟨t538, A2, H⟩ := xO H
 (try dsimp only at H)
 by_cases c3 : t538 = true
 rotate_left
 ·replace c3 := Bool.eq_false_iff.mpr c3
  subst c3
  rw [if_neg (show ¬ (false = true) by decide)] at H
  simp only [Option.some.injEq, Prod.mk.injEq] at H
  obtain ⟨rfl, rfl⟩ := H
  go_enter Try.func173, Try.ntmps173
  go_wp2_with (first | (refine xG (some 14) Try.func230 #[.int .i64 (l0.length : Int), .int .i64 1, .int .i64 8] ?_; (with_reducible refine (spec_l1In.calls (l0.length : Int) 1 8 false _ A2.out).mono ?_); rintro e w' ⟨rfl, ⟨nd, rfl⟩⟩; refine ⟨_, rfl, ?_⟩))
  go_ret2
  exact ⟨_, by first | rfl | (simp [errW_none, errW_some] <;> rfl) | (simp [*, errW_none, errW_some] <;> rfl), by first | exact Kd.R_nil _ _ _ _ _ | exact Kd.N_nil _ _ _ _ _ | exact Kd.V_nil _ _ _ _ _ | exact Kd.Q_nil _ _ _ _ _ | exact Kd.S_nil _ _ _ _ _, xB HB.out⟩

 subst c3
 rw [if_pos rfl] at H
 have H' := Aside0.mk H
 clear H
 go_enter Try.func173, Try.ntmps173
 go_wp2_with (first | (refine xG (some 14) Try.func230 #[.int .i64 (l0.length : Int), .int .i64 1, .int .i64 8] ?_; (with_reducible refine (spec_l1In.calls (l0.length : Int) 1 8 true _ A2.out).mono ?_); rintro e w' ⟨rfl, ⟨nd, rfl⟩⟩; refine ⟨_, rfl, ?_⟩))
 go_loopg [5, 18] k (fun kq v5 v18 w' => ∃ (x5_1 : Int) (x18_1 : Int), v5 = .int .i64 x5_1 ∧ v18 = .int .i64 x18_1 ∧ Aside0 (spec_JoinPhases.l0 kq l0 (l0.length : Int) x5_1 l0 (l0.length : Int) x18_1 = some (r1, r2)) ∧ Aside0 (kq ≤ k) ∧ Aside0 (Below w.heap.size w w'))
 case atStart => exact ⟨(0), (0), (by first | rfl | (simp; done) | (simp [*]; done)), (by first | rfl | (simp; done) | (simp [*]; done)), H', ⟨Nat.le_refl _⟩, ⟨xB HB.out⟩⟩
 case round =>
  clear H'
  try clear c3
  obtain ⟨x5_1, x18_1, rfl, rfl, HA, HK1, HB⟩ := hrel
  cases gk with
  | zero => exact absurd HA.out (by simp [spec_JoinPhases.l0])
  | succ k1 =>
   have H := HA.out
   clear HA
   simp only [spec_JoinPhases.l0] at H
   by_cases c4 : x18_1 < (l0.length : Int)
   ·rw [if_pos c4] at H
    have c4b0 : decide (x18_1 < (l0.length : Int)) = true := decide_eq_true c4
    clear c4
    by_cases c5 : 0 ≤ x18_1
    rotate_left
    ·rw [if_neg c5] at H
     exact absurd H (by simp)
    rw [if_pos c5] at H
    have c5b0 : decide (0 ≤ x18_1) = true := decide_eq_true c5
    clear c5
    by_cases c6 : x18_1 < (l0.length : Int)
    rotate_left
    ·rw [if_neg c6] at H
     exact absurd H (by simp)
    rw [if_pos c6] at H
    have c6b0 : decide (x18_1 < (l0.length : Int)) = true := decide_eq_true c6
    clear c6
    by_cases c7 : ((rd_L2 l0 x18_1).length : Int) > 9
    ·rw [if_pos c7] at H
     have c7b0 : decide (9 < ((rd_L2 l0 x18_1).length : Int)) = true := decide_eq_true c7
     have c7b1 : decide (9 < (rd_L2 l0 x18_1).length) = true := decide_eq_true (by omega)
     clear c7
     simp only [Option.some.injEq, Prod.mk.injEq] at H
     obtain ⟨rfl, rfl⟩ := H
     have p539 : 0 ≤ (x18_1 : Int) := of_decide_eq_true (by first | (with_reducible assumption) | assumption)
     have q539 : x18_1 < (l0.length : Int) := of_decide_eq_true (by first | (with_reducible assumption) | assumption)
     obtain ⟨ad539, A539_0, c539_0, e539, hx539_0, hl539_0, hi539_0⟩ := at_L2 HR0.out x18_1 p539 q539
     cases e539
     replace hx539_0 := (HB.out.cell (World.block_lt_of_cell? w _ hx539_0)).trans hx539_0
     have HR539_0 := Aside0.mk hi539_0
     have HC539_0 := Aside0.mk hl539_0
     clear hi539_0 hl539_0
     replace p539 := eq_true p539
     replace q539 := eq_true q539
     go_wp2
     go_ret2
     exact ⟨_, by first | rfl | (simp [errW_none, errW_some] <;> rfl) | (simp [*, errW_none, errW_some] <;> rfl), by first | exact Kd.R_nil _ _ _ _ _ | exact Kd.N_nil _ _ _ _ _ | exact Kd.V_nil _ _ _ _ _ | exact Kd.Q_nil _ _ _ _ _ | exact Kd.S_nil _ _ _ _ _, xB HB.out⟩
    rw [if_neg c7] at H
    have c7b0 : decide (9 < ((rd_L2 l0 x18_1).length : Int)) = false := decide_eq_false c7
    have c7b1 : decide (9 < (rd_L2 l0 x18_1).length) = false := decide_eq_false (by omega)
    clear c7
    have H' := Aside0.mk H
    clear H
    have p539 : 0 ≤ (x18_1 : Int) := of_decide_eq_true (by first | (with_reducible assumption) | assumption)
    have q539 : x18_1 < (l0.length : Int) := of_decide_eq_true (by first | (with_reducible assumption) | assumption)
    obtain ⟨ad539, A539_0, c539_0, e539, hx539_0, hl539_0, hi539_0⟩ := at_L2 HR0.out x18_1 p539 q539
    cases e539
    replace hx539_0 := (HB.out.cell (World.block_lt_of_cell? w _ hx539_0)).trans hx539_0
    have HR539_0 := Aside0.mk hi539_0
    have HC539_0 := Aside0.mk hl539_0
    clear hi539_0 hl539_0
    replace p539 := eq_true p539
    replace q539 := eq_true q539
    go_wp2
    go_roundg k1
    case measure => have := HK1.out; omega
    case rel => exact ⟨(wrap64 (x5_1 + ((rd_L2 l0 x18_1).length : Int))), (wrap64 (x18_1 + 1)), (by first | rfl | (simp; done) | (simp [*]; done)), (by first | rfl | (simp; done) | (simp [*]; done)), H', ⟨by have := HK1.out; omega⟩, ⟨xB HB.out⟩⟩
   rw [if_neg c4] at H
   have c4b0 : decide (x18_1 < (l0.length : Int)) = false := decide_eq_false c4
   clear c4
   have H' := Aside0.mk H
   clear H
   go_wp2
   go_loopg [8, 9] k1 (fun kq v8 v9 w' => ∃ (x8_2 : List Int) (x9_2 : Int), v9 = .int .i64 x9_2 ∧ Aside0 (spec_JoinPhases.l1 kq l0 (l0.length : Int) x5_1 x8_2 x9_2 = some (r1, r2)) ∧ Aside0 (kq ≤ k1) ∧ Aside0 (Kd.R (Kd.int .i64) 3 w' w.heap.size (fun _ => True) v8 x8_2) ∧ Aside0 (Below w.heap.size w w'))
   case atStart => exact ⟨(([] : List Int)), (0), (by first | rfl | (simp; done) | (simp [*]; done)), H', ⟨Nat.le_refl _⟩, ⟨by first | exact Kd.R_nil _ _ _ _ _ | exact Kd.N_nil _ _ _ _ _ | exact Kd.V_nil _ _ _ _ _ | exact Kd.Q_nil _ _ _ _ _ | exact Kd.S_nil _ _ _ _ _⟩, ⟨xB HB.out⟩⟩
   case round =>
    clear H'
    try clear c4b0
    obtain ⟨x8_2, x9_2, rfl, HA, HK2, HO_8, HB⟩ := hrel
    cases gk with
    | zero => exact absurd HA.out (by simp [spec_JoinPhases.l1])
    | succ k2 =>
     have H := HA.out
     clear HA
     simp only [spec_JoinPhases.l1] at H
     by_cases c8 : x9_2 < x5_1
     rotate_left
     ·rw [if_neg c8] at H
      have c8b0 : decide (x9_2 < x5_1) = false := decide_eq_false c8
      clear c8
      replace H := Option.bind_eq_some_iff.mp H
      obtain ⟨⟨t545, t548⟩, A190, H⟩ := H
      (try dsimp only at H)
      have A19 := Aside0.mk A190
      clear A190
      simp only [Option.some.injEq, Prod.mk.injEq] at H
      obtain ⟨rfl, rfl⟩ := H
      obtain ⟨Ao20, co20, eo20⟩ := Kd.R_slice HO_8.out
      subst eo20
      go_wp2_with (first | (refine xG (some 57) Try.func278 #[.slice Ao20 x8_2.length co20] ?_; (with_reducible refine (spec_weIf.calls k2 (fun k_ => some k_ = (.slice Ao20 x8_2.length co20 : Value).ownBlock) (.slice Ao20 x8_2.length co20) x8_2 t545 t548 w _ ?side1 ?side2 A19.out).mono ?_); (case side1 => repeat (first | (with_reducible first | exact HB.out | apply below_alloc | apply pw_below_drewN | apply below_drew1) | exact HB.out)); (case side2 => exact Kd.R_tight rfl HO_8.out); rintro e w21 ⟨v546, rfl, ho0, hb, hkp⟩; refine ⟨_, rfl, ?_⟩; have HO547 := Aside0.mk (Kd.R_mono (ok' := fun k_ => True) ho0 (fun k_ hk_ => trivial)); replace HB := Aside0.mk (hb); clear HO_8; (try clear hb); (try clear hkp); (try clear ho0)))
      go_ret2
      exact ⟨_, by first | rfl | (simp [errW_none, errW_some] <;> rfl) | (simp [*, errW_none, errW_some] <;> rfl), xR HO547.out, xB HB.out⟩
     rw [if_pos c8] at H
     have c8b0 : decide (x9_2 < x5_1) = true := decide_eq_true c8
     clear c8
     by_cases c9 : (l0.length : Int) = 0
     ·rw [if_pos c9] at H
      exact absurd H (by simp)
     rw [if_neg c9] at H
     have c9b0 : ((l0.length : Int) == 0) = false := beq_eq_false_iff_ne.mpr c9
     have c9b1 : ((l0.length : Int) != 0) = true := bne_iff_ne.mpr c9
     have c9b2 : ¬ (l0 = []) := fun h_ => c9 (by rw [h_]; rfl)
     obtain ⟨ji10, hji10⟩ : ∃ j_ : Int, (Int.tmod x9_2 (l0.length : Int)) = j_ := ⟨_, rfl⟩
     replace H : (if 0 ≤ (ji10) then (if (ji10) < (l0.length : Int) then (if (wrap64 (Int.tdiv x9_2 (l0.length : Int))) ≥ ((rd_L2 l0 (ji10)).length : Int) then (some (([] : List Int), false)) else (if 0 ≤ (wrap64 (Int.tdiv x9_2 (l0.length : Int))) then (if (wrap64 (Int.tdiv x9_2 (l0.length : Int))) < ((rd_L2 l0 (ji10)).length : Int) then (if x8_2.length < 17592186044416 then (spec_JoinPhases.l1 k2 l0 (l0.length : Int) x5_1 (x8_2 ++ [rd (rd_L2 l0 (ji10)) (wrap64 (Int.tdiv x9_2 (l0.length : Int)))]) (wrap64 (x9_2 + 1))) else (none)) else (none)) else (none))) else (none)) else (none)) = some (r1, r2) := by first | (rw [hji10] at H; exact H) | (simp only [hji10] at H ⊢; exact H)
     by_cases c11 : 0 ≤ (ji10)
     rotate_left
     ·rw [if_neg c11] at H
      exact absurd H (by simp)
     rw [if_pos c11] at H
     have c11b0 : decide (0 ≤ (ji10)) = true := decide_eq_true c11
     clear c11
     by_cases c12 : (ji10) < (l0.length : Int)
     rotate_left
     ·rw [if_neg c12] at H
      exact absurd H (by simp)
     rw [if_pos c12] at H
     have c12b0 : decide ((ji10) < (l0.length : Int)) = true := decide_eq_true c12
     clear c12
     by_cases c13 : (wrap64 (Int.tdiv x9_2 (l0.length : Int))) ≥ ((rd_L2 l0 (ji10)).length : Int)
     ·rw [if_pos c13] at H
      have c13b0 : decide (((rd_L2 l0 (ji10)).length : Int) ≤ (wrap64 (Int.tdiv x9_2 (l0.length : Int)))) = true := decide_eq_true c13
      clear c13
      simp only [Option.some.injEq, Prod.mk.injEq] at H
      obtain ⟨rfl, rfl⟩ := H
      have p540 : 0 ≤ ((ji10) : Int) := of_decide_eq_true (by first | (with_reducible assumption) | assumption | (rw [← hji10]; first | (with_reducible assumption) | assumption))
      have q540 : (ji10) < (l0.length : Int) := of_decide_eq_true (by first | (with_reducible assumption) | assumption | (rw [← hji10]; first | (with_reducible assumption) | assumption))
      obtain ⟨ad540, A540_0, c540_0, e540, hx540_0, hl540_0, hi540_0⟩ := at_L2 HR0.out (ji10) p540 q540
      cases e540
      replace hx540_0 := (HB.out.cell (World.block_lt_of_cell? w _ hx540_0)).trans hx540_0
      have HR540_0 := Aside0.mk hi540_0
      have HC540_0 := Aside0.mk hl540_0
      clear hi540_0 hl540_0
      replace p540 := eq_true p540
      replace q540 := eq_true q540
      go_wp2
      go_ret2
      exact ⟨_, by first | rfl | (simp [errW_none, errW_some] <;> rfl) | (simp only [← hji10]; first | rfl | (simp [errW_none, errW_some] <;> rfl)) | (simp [*, errW_none, errW_some] <;> rfl), by first | exact Kd.R_nil _ _ _ _ _ | exact Kd.N_nil _ _ _ _ _ | exact Kd.V_nil _ _ _ _ _ | exact Kd.Q_nil _ _ _ _ _ | exact Kd.S_nil _ _ _ _ _, xB HB.out⟩
     rw [if_neg c13] at H
     have c13b0 : decide (((rd_L2 l0 (ji10)).length : Int) ≤ (wrap64 (Int.tdiv x9_2 (l0.length : Int)))) = false := decide_eq_false c13
     clear c13
     obtain ⟨ji14, hji14⟩ : ∃ j_ : Int, (wrap64 (Int.tdiv x9_2 (l0.length : Int))) = j_ := ⟨_, rfl⟩
     replace H : (if 0 ≤ (ji14) then (if (ji14) < ((rd_L2 l0 (ji10)).length : Int) then (if x8_2.length < 17592186044416 then (spec_JoinPhases.l1 k2 l0 (l0.length : Int) x5_1 (x8_2 ++ [rd (rd_L2 l0 (ji10)) (ji14)]) (wrap64 (x9_2 + 1))) else (none)) else (none)) else (none)) = some (r1, r2) := by first | (rw [hji14] at H; exact H) | (simp only [hji14] at H ⊢; exact H)
     (try rw [hji14] at c13b0)
     have hji14w : (IntKind.i64.wrap (Int.tdiv x9_2 (l0.length : Int))) = ji14 := (i64_w _).trans hji14
     by_cases c15 : 0 ≤ (ji14)
     rotate_left
     ·rw [if_neg c15] at H
      exact absurd H (by simp)
     rw [if_pos c15] at H
     have c15b0 : decide (0 ≤ (ji14)) = true := decide_eq_true c15
     clear c15
     by_cases c16 : (ji14) < ((rd_L2 l0 (ji10)).length : Int)
     rotate_left
     ·rw [if_neg c16] at H
      exact absurd H (by simp)
     rw [if_pos c16] at H
     have c16b0 : decide ((ji14) < ((rd_L2 l0 (ji10)).length : Int)) = true := decide_eq_true c16
     clear c16
     by_cases c17 : x8_2.length < 17592186044416
     rotate_left
     ·rw [if_neg c17] at H
      exact absurd H (by simp)
     rw [if_pos c17] at H
     have LMc17 := Aside0.mk c17
     clear c17
     obtain ⟨y542, hy542⟩ : ∃ y_ : List Int, y_ = (x8_2 ++ [rd (rd_L2 l0 (ji10)) (ji14)]) := ⟨_, rfl⟩
     replace H : (spec_JoinPhases.l1 k2 l0 (l0.length : Int) x5_1 y542 (wrap64 (x9_2 + 1))) = some (r1, r2) := by first | (rw [hy542]; with_reducible exact H) | (have H2_ := (Option.bind_some _ _).symm.trans H; rw [hy542]; with_reducible exact H2_) | (have H2_ := (Option.bind_some _ _).symm.trans H; with_reducible exact H2_) | with_reducible exact H | (rw [hy542]; exact H) | exact H
     have Ny542 := Aside0.mk hy542
     clear hy542
     have H' := Aside0.mk H
     clear H
     have p540 : 0 ≤ ((ji10) : Int) := of_decide_eq_true (by first | (with_reducible assumption) | assumption | (rw [← hji10]; first | (with_reducible assumption) | assumption))
     have q540 : (ji10) < (l0.length : Int) := of_decide_eq_true (by first | (with_reducible assumption) | assumption | (rw [← hji10]; first | (with_reducible assumption) | assumption))
     obtain ⟨ad540, A540_0, c540_0, e540, hx540_0, hl540_0, hi540_0⟩ := at_L2 HR0.out (ji10) p540 q540
     cases e540
     replace hx540_0 := (HB.out.cell (World.block_lt_of_cell? w _ hx540_0)).trans hx540_0
     have HR540_0 := Aside0.mk hi540_0
     have HC540_0 := Aside0.mk hl540_0
     clear hi540_0 hl540_0
     replace p540 := eq_true p540
     replace q540 := eq_true q540
     have p541 : 0 ≤ ((ji14) : Int) := of_decide_eq_true (by first | (with_reducible assumption) | assumption | (rw [← hji14]; first | (with_reducible assumption) | assumption))
     have q541 : (ji14) < ((rd_L2 l0 (ji10)).length : Int) := of_decide_eq_true (by first | (with_reducible assumption) | assumption | (rw [← hji14]; first | (with_reducible assumption) | assumption))
     obtain ⟨ad541, e541, hx541_0⟩ := Kd.at_int HR540_0.out (ji14) p541 q541
     cases e541
     (try replace hx541_0 := (HB.out.cell (World.block_lt_of_cell? w _ hx541_0)).trans hx541_0)
     replace p541 := eq_true p541
     replace q541 := eq_true q541
     go_wp2_with (first | ((with_reducible refine gate_builtin (b := .append) (xs := #[.tmp 47, .tmp 54]) rfl ?_); at_builtin; refine Kd.R_append (Kd.int .i64) (w0 := w) w.heap.size rfl (.tmp 47) (.tmp 54) 24 3 (.int .i64 0) 8 rfl Try.underlying24 info3 rfl (by decide) (by omega) u8 x8_2 (rd (rd_L2 l0 (ji10)) (ji14)) [.int .i64 (rd (rd_L2 l0 (ji10)) (ji14))] (fun _ => True) (fun _ => False) rfl rfl ?aP (fun _ hk => hk.elim) ?aF ?aO ?aB ?aS ?aL ?_; (case aP => exact rfl); (case aB => exact (xB HB.out)); (case aF => exact (fun _ _ => trivial)); (case aO => exact (xR HO_8.out)); (case aS => exact (below_size (xB HB.out))); (case aL => have := LMc17.out; omega); intro v543 w18 ho hb hg hat; rw [← Ny542.out] at ho; replace HB := Aside0.mk (hb); have HO544 := Aside0.mk (ho); clear HO_8; clear ho hb hg hat))
     go_roundg k2
     case measure => have := HK1.out; have := HK2.out; omega
     case rel => exact ⟨(y542), (wrap64 (x9_2 + 1)), (by first | rfl | (simp; done) | (simp [*]; done)), H', ⟨by have := HK1.out; have := HK2.out; omega⟩, ⟨xR HO544.out⟩, ⟨xB HB.out⟩⟩
/-! ### laws_iRows: function 174 -/
def laws_iRows.l0 : Nat → List (List Int) → List (List Int) → Int → Int → Option (Bool)
 | 0, _, _, _, _ => none
 | k + 1, x0, x1, x12, x13 => if x13 < x12 then (if 0 ≤ x13 then (if x13 < (x0.length : Int) then (if x13 < (x1.length : Int) then ((laws_iSame.f k (rd_L2 x0 x13) (rd_L2 x1 x13)).bind fun t551 => (if t551 = true then (laws_iRows.l0 k x0 x1 x12 (wrap64 (x13 + 1))) else (some false))) else (none)) else (none)) else (none)) else (some true)
def laws_iRows.f (k : Nat) (l0 : List (List Int)) (l1 : List (List Int)) : Option (Bool) := if (l0.length : Int) = (l1.length : Int) then (laws_iRows.l0 k l0 l1 (l0.length : Int) 0) else (some false)
theorem laws_iRows.mono_l : ∀ k, (∀ y0 y1 y2 y3, LeO (laws_iRows.l0 k y0 y1 y2 y3) (laws_iRows.l0 (k + 1) y0 y1 y2 y3))
 | 0 => fun _ _ _ _ r h => by simp [laws_iRows.l0] at h
 | k + 1 => by
  have ih0 := laws_iRows.mono_l k
  have m0 := @laws_iSame.mono
  intros
  unfold laws_iRows.l0
  exact xM
theorem laws_iRows.mono : ∀ a0 a1 k, LeO (laws_iRows.f k a0 a1) (laws_iRows.f (k + 1) a0 a1) := by
 intro a0 a1 k
 have ih0 := laws_iRows.mono_l k
 have m0 := @laws_iSame.mono
 unfold laws_iRows.f
 exact xM
set_option maxHeartbeats 8000000 in
set_option maxRecDepth 100000 in
theorem laws_iRows.calls (k : Nat) (A0 : Option Addr) (c0 : Nat) (l0 : List (List Int)) (A1 : Option Addr) (c1 : Nat) (l1 : List (List Int)) (r : Bool) (w : World) (hr0 : Kd.C (Kd.slice 3 (Kd.int .i64)) w A0 l0.length l0) (hc0 : l0.length ≤ c0) (hr1 : Kd.C (Kd.slice 3 (Kd.int .i64)) w A1 l1.length l1) (hc1 : l1.length ≤ c1) (h : laws_iRows.f k l0 l1 = some r) :
  Calls Try.prog 174 #[.slice A0 l0.length c0, .slice A1 l1.length c1] w fun e w' => e = .returned (.bool r) ∧ Drawn0 w w' := by
 have HR0 := Aside0.mk hr0
 have HC0 := Aside0.mk hc0
 clear hr0 hc0
 have HR1 := Aside0.mk hr1
 have HC1 := Aside0.mk hc1
 clear hr1 hc1
 have H : (if (l0.length : Int) = (l1.length : Int) then (laws_iRows.l0 k l0 l1 (l0.length : Int) 0) else (some false)) = some r := h
 clear h
 by_cases c3 : (l0.length : Int) = (l1.length : Int)
 rotate_left
 ·rw [if_neg c3] at H
  have c3b0 : ((l0.length : Int) == (l1.length : Int)) = false := beq_eq_false_iff_ne.mpr c3
  have c3b1 : ((l0.length : Int) != (l1.length : Int)) = true := bne_iff_ne.mpr c3
  have c3b2 : (l0.length == l1.length) = false := by first | simpa using c3 | (simp at c3 ⊢; omega)
  obtain rfl := Option.some.inj H
  go_enter Try.func174, Try.ntmps174
  go_wp2
  repeat (go_quiet (fail); try go_wp2)
  go_ret
  exact ⟨by first | rfl | (simp; done) | (simp [*]; done), by repeat (first | exact Drawn0.refl _ | apply Drawn0.step)⟩

 rw [if_pos c3] at H
 have c3b0 : ((l0.length : Int) == (l1.length : Int)) = true := beq_iff_eq.mpr c3
 have c3b1 : ((l0.length : Int) != (l1.length : Int)) = false := bne_eq_false_iff_eq.mpr c3
 have c3b2 : (l0.length == l1.length) = true := by first | simpa using c3 | (simp at c3 ⊢; omega)
 clear c3
 have H' := Aside0.mk H
 clear H
 go_enter Try.func174, Try.ntmps174
 go_wp2
 repeat (go_quiet (fail); try go_wp2)
 go_loopg [13] k (fun kq v13 w' => ∃ (x13_1 : Int), v13 = .int .i64 x13_1 ∧ Aside0 (laws_iRows.l0 kq l0 l1 (l0.length : Int) x13_1 = some r) ∧ Aside0 (kq ≤ k) ∧ Drawn0 w w')
 case atStart => exact ⟨(0), (by first | rfl | (simp; done) | (simp [*]; done)), H', ⟨Nat.le_refl _⟩, by repeat (first | exact Drawn0.refl _ | apply Drawn0.step)⟩
 case round =>
  clear H'
  try clear c1
  try clear c3b0
  try clear c3b1
  try clear c3b2
  obtain ⟨x13_1, rfl, HA, HK1, ⟨m1, rfl⟩⟩ := hrel
  cases gk with
  | zero => exact absurd HA.out (by simp [laws_iRows.l0])
  | succ k1 =>
   have H := HA.out
   clear HA
   simp only [laws_iRows.l0] at H
   by_cases c4 : x13_1 < (l0.length : Int)
   rotate_left
   ·rw [if_neg c4] at H
    have c4b0 : decide (x13_1 < (l0.length : Int)) = false := decide_eq_false c4
    clear c4
    obtain rfl := Option.some.inj H
    go_wp2
    repeat (go_quiet (fail); try go_wp2)
    go_ret
    exact ⟨by first | rfl | (simp; done) | (simp [*]; done), by repeat (first | exact Drawn0.refl _ | apply Drawn0.step)⟩
   rw [if_pos c4] at H
   have c4b0 : decide (x13_1 < (l0.length : Int)) = true := decide_eq_true c4
   clear c4
   by_cases c5 : 0 ≤ x13_1
   rotate_left
   ·rw [if_neg c5] at H
    exact absurd H (by simp)
   rw [if_pos c5] at H
   have c5b0 : decide (0 ≤ x13_1) = true := decide_eq_true c5
   clear c5
   by_cases c6 : x13_1 < (l0.length : Int)
   rotate_left
   ·rw [if_neg c6] at H
    exact absurd H (by simp)
   rw [if_pos c6] at H
   have c6b0 : decide (x13_1 < (l0.length : Int)) = true := decide_eq_true c6
   clear c6
   by_cases c7 : x13_1 < (l1.length : Int)
   rotate_left
   ·rw [if_neg c7] at H
    exact absurd H (by simp)
   rw [if_pos c7] at H
   have c7b0 : decide (x13_1 < (l1.length : Int)) = true := decide_eq_true c7
   clear c7
   obtain ⟨t551, A8, H⟩ := xO H
   (try dsimp only at H)
   by_cases c9 : t551 = true
   rotate_left
   ·replace c9 := Bool.eq_false_iff.mpr c9
    subst c9
    rw [if_neg (show ¬ (false = true) by decide)] at H
    obtain rfl := Option.some.inj H
    have p549 : 0 ≤ (x13_1 : Int) := of_decide_eq_true (by first | (with_reducible assumption) | assumption)
    have q549 : x13_1 < (l0.length : Int) := of_decide_eq_true (by first | (with_reducible assumption) | assumption)
    obtain ⟨ad549, A549_0, c549_0, e549, hx549_0, hl549_0, hi549_0⟩ := at_L2 HR0.out x13_1 p549 q549
    cases e549
    have HR549_0 := Aside0.mk hi549_0
    have HC549_0 := Aside0.mk hl549_0
    clear hi549_0 hl549_0
    replace p549 := eq_true p549
    replace q549 := eq_true q549
    have p550 : 0 ≤ (x13_1 : Int) := of_decide_eq_true (by first | (with_reducible assumption) | assumption)
    have q550 : x13_1 < (l1.length : Int) := of_decide_eq_true (by first | (with_reducible assumption) | assumption)
    obtain ⟨ad550, A550_0, c550_0, e550, hx550_0, hl550_0, hi550_0⟩ := at_L2 HR1.out x13_1 p550 q550
    cases e550
    have HR550_0 := Aside0.mk hi550_0
    have HC550_0 := Aside0.mk hl550_0
    clear hi550_0 hl550_0
    replace p550 := eq_true p550
    replace q550 := eq_true q550
    go_wp2_with (first | (go_at_call 21; (with_reducible refine (laws_iSame.calls k1 _ _ (rd_L2 l0 x13_1) _ _ (rd_L2 l1 x13_1) false _ ?side1 ?side2 ?side3 ?side4 A8.out).mono ?_); (case side1 => exact xC HR549_0.out); (case side2 => exact HC549_0.out); (case side3 => exact xC HR550_0.out); (case side4 => exact HC550_0.out); rintro e w' ⟨rfl, ⟨nd, rfl⟩⟩; (try exact xD)))
    repeat (go_quiet (first | (go_at_call 21; (with_reducible refine (laws_iSame.calls k1 _ _ (rd_L2 l0 x13_1) _ _ (rd_L2 l1 x13_1) false _ ?side1 ?side2 ?side3 ?side4 A8.out).mono ?_); (case side1 => exact xC HR549_0.out); (case side2 => exact HC549_0.out); (case side3 => exact xC HR550_0.out); (case side4 => exact HC550_0.out); rintro e w' ⟨rfl, ⟨nd, rfl⟩⟩; (try exact xD))); try go_wp2_with (first | (go_at_call 21; (with_reducible refine (laws_iSame.calls k1 _ _ (rd_L2 l0 x13_1) _ _ (rd_L2 l1 x13_1) false _ ?side1 ?side2 ?side3 ?side4 A8.out).mono ?_); (case side1 => exact xC HR549_0.out); (case side2 => exact HC549_0.out); (case side3 => exact xC HR550_0.out); (case side4 => exact HC550_0.out); rintro e w' ⟨rfl, ⟨nd, rfl⟩⟩; (try exact xD))))
    go_ret
    exact ⟨by first | rfl | (simp; done) | (simp [*]; done), by repeat (first | exact Drawn0.refl _ | apply Drawn0.step)⟩
   subst c9
   rw [if_pos rfl] at H
   have H' := Aside0.mk H
   clear H
   have p549 : 0 ≤ (x13_1 : Int) := of_decide_eq_true (by first | (with_reducible assumption) | assumption)
   have q549 : x13_1 < (l0.length : Int) := of_decide_eq_true (by first | (with_reducible assumption) | assumption)
   obtain ⟨ad549, A549_0, c549_0, e549, hx549_0, hl549_0, hi549_0⟩ := at_L2 HR0.out x13_1 p549 q549
   cases e549
   have HR549_0 := Aside0.mk hi549_0
   have HC549_0 := Aside0.mk hl549_0
   clear hi549_0 hl549_0
   replace p549 := eq_true p549
   replace q549 := eq_true q549
   have p550 : 0 ≤ (x13_1 : Int) := of_decide_eq_true (by first | (with_reducible assumption) | assumption)
   have q550 : x13_1 < (l1.length : Int) := of_decide_eq_true (by first | (with_reducible assumption) | assumption)
   obtain ⟨ad550, A550_0, c550_0, e550, hx550_0, hl550_0, hi550_0⟩ := at_L2 HR1.out x13_1 p550 q550
   cases e550
   have HR550_0 := Aside0.mk hi550_0
   have HC550_0 := Aside0.mk hl550_0
   clear hi550_0 hl550_0
   replace p550 := eq_true p550
   replace q550 := eq_true q550
   go_wp2_with (first | (go_at_call 21; (with_reducible refine (laws_iSame.calls k1 _ _ (rd_L2 l0 x13_1) _ _ (rd_L2 l1 x13_1) true _ ?side1 ?side2 ?side3 ?side4 A8.out).mono ?_); (case side1 => exact xC HR549_0.out); (case side2 => exact HC549_0.out); (case side3 => exact xC HR550_0.out); (case side4 => exact HC550_0.out); rintro e w' ⟨rfl, ⟨nd, rfl⟩⟩; (try exact xD)))
   repeat (go_quiet (first | (go_at_call 21; (with_reducible refine (laws_iSame.calls k1 _ _ (rd_L2 l0 x13_1) _ _ (rd_L2 l1 x13_1) true _ ?side1 ?side2 ?side3 ?side4 A8.out).mono ?_); (case side1 => exact xC HR549_0.out); (case side2 => exact HC549_0.out); (case side3 => exact xC HR550_0.out); (case side4 => exact HC550_0.out); rintro e w' ⟨rfl, ⟨nd, rfl⟩⟩; (try exact xD))); try go_wp2_with (first | (go_at_call 21; (with_reducible refine (laws_iSame.calls k1 _ _ (rd_L2 l0 x13_1) _ _ (rd_L2 l1 x13_1) true _ ?side1 ?side2 ?side3 ?side4 A8.out).mono ?_); (case side1 => exact xC HR549_0.out); (case side2 => exact HC549_0.out); (case side3 => exact xC HR550_0.out); (case side4 => exact HC550_0.out); rintro e w' ⟨rfl, ⟨nd, rfl⟩⟩; (try exact xD))))
   go_roundg k1
   case measure => have := HK1.out; omega
   case rel => exact ⟨(wrap64 (x13_1 + 1)), (by first | rfl | (simp; done) | (simp [*]; done)), H', ⟨by have := HK1.out; omega⟩, by repeat (first | exact Drawn0.refl _ | apply Drawn0.step)⟩
/-! ### spec_DrawTwoBands: function 175 -/
def spec_DrawTwoBands.f (k : Nat) (l0 : List Int) : Option (List Int) := (spec_l1Cur_signal.f k l0 0 0 12 50).bind fun bt553 => (if ((bt553.1.length : Int) % 2) = 1 then ((spec_l1Cur_one.f l0 bt553.2.1 bt553.2.2 6).bind fun bt558 => (if bt558.1 = true then (some bt553.1) else (if 1 ≤ (bt553.1.length : Int) then (some (bt553.1.drop (1 : Int).toNat)) else (none)))) else (some bt553.1))
theorem spec_DrawTwoBands.mono : ∀ a0 k, LeO (spec_DrawTwoBands.f k a0) (spec_DrawTwoBands.f (k + 1) a0) := by
 intro a0 k
 have m0 := @spec_l1Cur_signal.mono
 unfold spec_DrawTwoBands.f
 exact xM
set_option maxHeartbeats 8000000 in
set_option maxRecDepth 100000 in
theorem spec_DrawTwoBands.calls (k : Nat) (A0 : Option Addr) (c0 : Nat) (l0 : List Int) (r : List Int) (w : World) (hr0 : Kd.C (Kd.int .u8) w A0 l0.length l0) (hc0 : l0.length ≤ c0) (h : spec_DrawTwoBands.f k l0 = some r) :
  Calls Try.prog 175 #[.slice A0 l0.length c0] w fun e w' => ∃ v0_ : Value, e = .returned (v0_) ∧ Kd.Q (Kd.int .i64) 3 w' w.heap.size (fun _ => True) v0_ r ∧ Below w.heap.size w w' := by
 have hu129 := Try.underlying129
 have HR0 := Aside0.mk hr0
 have HC0 := Aside0.mk hc0
 clear hr0 hc0
 have HB := Aside0.mk (Below.refl w.heap.size w)
 have H : ((spec_l1Cur_signal.f k l0 0 0 12 50).bind fun bt553 => (if ((bt553.1.length : Int) % 2) = 1 then ((spec_l1Cur_one.f l0 bt553.2.1 bt553.2.2 6).bind fun bt558 => (if bt558.1 = true then (some bt553.1) else (if 1 ≤ (bt553.1.length : Int) then (some (bt553.1.drop (1 : Int).toNat)) else (none)))) else (some bt553.1))) = some r := h
 clear h
 replace H := Option.bind_eq_some_iff.mp H
 obtain ⟨⟨t553, t556, t557⟩, A20, H⟩ := H
 (try dsimp only at H)
 have A2 := Aside0.mk A20
 clear A20
 by_cases c3 : ((t553.length : Int) % 2) = 1
 rotate_left
 ·rw [if_neg c3] at H
  have c3b0 : (((t553.length : Int) % 2) == 1) = false := beq_eq_false_iff_ne.mpr c3
  have c3b1 : (((t553.length : Int) % 2) != 1) = true := bne_iff_ne.mpr c3
  obtain rfl := Option.some.inj H
  go_enter Try.func175, Try.ntmps175
  go_wp2_with (first | (refine xV 7 #[.slice A0 l0.length c0, .int .i64 0, .int .u64 0] 129 ?_; intro gb552 hg w16 hbox hb; have HI552 := Aside0.mk ((show IsS129 w _ gb552 l0 0 0 from ⟨_, _, hbox, (by rw [hg]; exact (below_size (xB HB.out)) : w.heap.size ≤ gb552), HR0.out⟩)); replace HB := Aside0.mk (below_step (xB HB.out) hb); clear hb hbox hg) | (refine xG (some 9) Try.func214 #[.pointer (some ⟨gb552, 0, none⟩), .int .i64 12, .int .i64 50] ?_; (with_reducible refine (spec_l1Cur_signal.calls k gb552 l0 0 0 12 50 t553 t556 t557 w _ ?side1 ?side2 A2.out).mono ?_); (case side1 => repeat (first | (with_reducible first | exact HI552.out | apply IsS129.alloc | apply IsS129.drewN | apply IsS129.drew | apply IsS129.set_1 | apply IsS129.set_2) | exact HI552.out)); (case side2 => repeat (first | (with_reducible first | exact HB.out | apply below_alloc | apply pw_below_drewN | apply below_drew1 | refine below_set ?_ (IsS129.ge HI552.out)) | exact HB.out)); rintro e w17 ⟨v554, rfl, ho0, hi, hb, hk⟩; refine ⟨_, rfl, ?_⟩; have HO555 := Aside0.mk (Kd.R_lower ho0 (below_size (by repeat (first | (with_reducible first | exact HB.out | apply below_alloc | apply pw_below_drewN | apply below_drew1 | refine below_set ?_ (IsS129.ge HI552.out)) | exact HB.out)))); replace HB := Aside0.mk (hb); replace HI552 := Aside0.mk (hi); (try clear hb); (try clear hb2); (try clear hk); (try clear hi); (try clear ho0); obtain ⟨Ao18, co18, eo18⟩ := Kd.R_slice HO555.out; subst eo18))
  go_ret
  exact ⟨_, by first | rfl | (simp [errW_none, errW_some] <;> rfl) | (simp [*, errW_none, errW_some] <;> rfl), Kd.Q_of_R (xR HO555.out), by repeat (first | (with_reducible first | exact HB.out | apply below_alloc | apply pw_below_drewN | apply below_drew1 | refine below_set ?_ (IsS129.ge HI552.out)) | exact HB.out)⟩

 rw [if_pos c3] at H
 have c3b0 : (((t553.length : Int) % 2) == 1) = true := beq_iff_eq.mpr c3
 have c3b1 : (((t553.length : Int) % 2) != 1) = false := bne_eq_false_iff_eq.mpr c3
 clear c3
 replace H := Option.bind_eq_some_iff.mp H
 obtain ⟨⟨t558, t559, t560⟩, A40, H⟩ := H
 (try dsimp only at H)
 have A4 := Aside0.mk A40
 clear A40
 by_cases c5 : t558 = true
 ·subst c5
  rw [if_pos rfl] at H
  obtain rfl := Option.some.inj H
  go_enter Try.func175, Try.ntmps175
  go_wp2_with (first | (refine xV 7 #[.slice A0 l0.length c0, .int .i64 0, .int .u64 0] 129 ?_; intro gb552 hg w6 hbox hb; have HI552 := Aside0.mk ((show IsS129 w _ gb552 l0 0 0 from ⟨_, _, hbox, (by rw [hg]; exact (below_size (xB HB.out)) : w.heap.size ≤ gb552), HR0.out⟩)); replace HB := Aside0.mk (below_step (xB HB.out) hb); clear hb hbox hg) | (refine xG (some 9) Try.func214 #[.pointer (some ⟨gb552, 0, none⟩), .int .i64 12, .int .i64 50] ?_; (with_reducible refine (spec_l1Cur_signal.calls k gb552 l0 0 0 12 50 t553 t556 t557 w _ ?side1 ?side2 A2.out).mono ?_); (case side1 => repeat (first | (with_reducible first | exact HI552.out | apply IsS129.alloc | apply IsS129.drewN | apply IsS129.drew | apply IsS129.set_1 | apply IsS129.set_2) | exact HI552.out)); (case side2 => repeat (first | (with_reducible first | exact HB.out | apply below_alloc | apply pw_below_drewN | apply below_drew1 | refine below_set ?_ (IsS129.ge HI552.out)) | exact HB.out)); rintro e w7 ⟨v554, rfl, ho0, hi, hb, hk⟩; refine ⟨_, rfl, ?_⟩; have HO555 := Aside0.mk (Kd.R_lower ho0 (below_size (by repeat (first | (with_reducible first | exact HB.out | apply below_alloc | apply pw_below_drewN | apply below_drew1 | refine below_set ?_ (IsS129.ge HI552.out)) | exact HB.out)))); replace HB := Aside0.mk (hb); replace HI552 := Aside0.mk (hi); (try clear hb); (try clear hb2); (try clear hk); (try clear hi); (try clear ho0); obtain ⟨Ao8, co8, eo8⟩ := Kd.R_slice HO555.out; subst eo8) | (go_at_call 227; (with_reducible refine (spec_l1Cur_one.calls gb552 l0 t556 t557 6 true t559 t560 w _ ?side1 ?side2 A4.out).mono ?_); (case side1 => repeat (first | (with_reducible first | exact HI552.out | apply IsS129.alloc | apply IsS129.drewN | apply IsS129.drew | apply IsS129.set_1 | apply IsS129.set_2) | exact HI552.out)); (case side2 => repeat (first | (with_reducible first | exact HB.out | apply below_alloc | apply pw_below_drewN | apply below_drew1 | refine below_set ?_ (IsS129.ge HI552.out)) | exact HB.out)); rintro e w9 ⟨rfl, hi, hb, hk⟩; replace HO555 := Aside0.mk (Kd.R_mono (Kd.R_keep (IsS129.apart (show IsS129 w _ gb552 l0 t556 t557 from by repeat (first | (with_reducible first | exact HI552.out | apply IsS129.alloc | apply IsS129.drewN | apply IsS129.drew | apply IsS129.set_1 | apply IsS129.set_2) | exact HI552.out)) (xR HO555.out) (by decide)) hk (fun _ h => h.2)) (fun _ h => h.1)); replace HB := Aside0.mk (hb); replace HI552 := Aside0.mk (hi); (try clear hb); (try clear hb2); (try clear hk); (try clear hi)))
  go_ret
  exact ⟨_, by first | rfl | (simp [errW_none, errW_some] <;> rfl) | (simp [*, errW_none, errW_some] <;> rfl), Kd.Q_of_R (xR HO555.out), by repeat (first | (with_reducible first | exact HB.out | apply below_alloc | apply pw_below_drewN | apply below_drew1 | refine below_set ?_ (IsS129.ge HI552.out)) | exact HB.out)⟩
 replace c5 := Bool.eq_false_iff.mpr c5
 subst c5
 rw [if_neg (show ¬ (false = true) by decide)] at H
 by_cases c10 : 1 ≤ (t553.length : Int)
 rotate_left
 ·rw [if_neg c10] at H
  exact absurd H (by simp)
 rw [if_pos c10] at H
 have c10b0 := eq_true c10
 have c10b1 : decide (1 ≤ (t553.length : Int)) = true := decide_eq_true c10
 clear c10
 obtain ⟨y561, hy561⟩ : ∃ y_ : List Int, y_ = (t553.drop (1 : Int).toNat) := ⟨_, rfl⟩
 replace H : (some y561) = some r := by first | (rw [hy561]; with_reducible exact H) | (have H2_ := (Option.bind_some _ _).symm.trans H; rw [hy561]; with_reducible exact H2_) | (have H2_ := (Option.bind_some _ _).symm.trans H; with_reducible exact H2_) | with_reducible exact H | (rw [hy561]; exact H) | exact H
 have Ny561 := Aside0.mk hy561
 clear hy561
 obtain rfl := Option.some.inj H
 go_enter Try.func175, Try.ntmps175
 go_wp2_with (first | (refine xV 7 #[.slice A0 l0.length c0, .int .i64 0, .int .u64 0] 129 ?_; intro gb552 hg w11 hbox hb; have HI552 := Aside0.mk ((show IsS129 w _ gb552 l0 0 0 from ⟨_, _, hbox, (by rw [hg]; exact (below_size (xB HB.out)) : w.heap.size ≤ gb552), HR0.out⟩)); replace HB := Aside0.mk (below_step (xB HB.out) hb); clear hb hbox hg) | (refine xG (some 9) Try.func214 #[.pointer (some ⟨gb552, 0, none⟩), .int .i64 12, .int .i64 50] ?_; (with_reducible refine (spec_l1Cur_signal.calls k gb552 l0 0 0 12 50 t553 t556 t557 w _ ?side1 ?side2 A2.out).mono ?_); (case side1 => repeat (first | (with_reducible first | exact HI552.out | apply IsS129.alloc | apply IsS129.drewN | apply IsS129.drew | apply IsS129.set_1 | apply IsS129.set_2) | exact HI552.out)); (case side2 => repeat (first | (with_reducible first | exact HB.out | apply below_alloc | apply pw_below_drewN | apply below_drew1 | refine below_set ?_ (IsS129.ge HI552.out)) | exact HB.out)); rintro e w12 ⟨v554, rfl, ho0, hi, hb, hk⟩; refine ⟨_, rfl, ?_⟩; have HO555 := Aside0.mk (Kd.R_lower ho0 (below_size (by repeat (first | (with_reducible first | exact HB.out | apply below_alloc | apply pw_below_drewN | apply below_drew1 | refine below_set ?_ (IsS129.ge HI552.out)) | exact HB.out)))); replace HB := Aside0.mk (hb); replace HI552 := Aside0.mk (hi); (try clear hb); (try clear hb2); (try clear hk); (try clear hi); (try clear ho0); obtain ⟨Ao13, co13, eo13⟩ := Kd.R_slice HO555.out; subst eo13) | (go_at_call 227; (with_reducible refine (spec_l1Cur_one.calls gb552 l0 t556 t557 6 false t559 t560 w _ ?side1 ?side2 A4.out).mono ?_); (case side1 => repeat (first | (with_reducible first | exact HI552.out | apply IsS129.alloc | apply IsS129.drewN | apply IsS129.drew | apply IsS129.set_1 | apply IsS129.set_2) | exact HI552.out)); (case side2 => repeat (first | (with_reducible first | exact HB.out | apply below_alloc | apply pw_below_drewN | apply below_drew1 | refine below_set ?_ (IsS129.ge HI552.out)) | exact HB.out)); rintro e w14 ⟨rfl, hi, hb, hk⟩; replace HO555 := Aside0.mk (Kd.R_mono (Kd.R_keep (IsS129.apart (show IsS129 w _ gb552 l0 t556 t557 from by repeat (first | (with_reducible first | exact HI552.out | apply IsS129.alloc | apply IsS129.drewN | apply IsS129.drew | apply IsS129.set_1 | apply IsS129.set_2) | exact HI552.out)) (xR HO555.out) (by decide)) hk (fun _ h => h.2)) (fun _ h => h.1)); replace HB := Aside0.mk (hb); replace HI552 := Aside0.mk (hi); (try clear hb); (try clear hb2); (try clear hk); (try clear hi); have q15 : (1 : Int) ≤ ((t553.length : Int) : Int) := of_decide_eq_true (by first | (with_reducible assumption) | assumption); obtain ⟨i015, hi015, _, hsz15, _⟩ := info_parts info3; have hcut15 := cut_from (P := Try.prog) 24 3 .i64 Try.underlying24 hi015 1 hsz15 Ao13 t553.length co13 1 (by omega) q15; have hr15 := Kd.Q_drop (k := (1 : Int).toNat) (Kd.Q_of_R HO555.out) (by omega); obtain ⟨A15, hA15⟩ : ∃ A1, A1 = (if co13 = (1 : Int).toNat then Ao13 else (Ao13 : Option Addr).map (·.add ((1 : Int).toNat * 1))) := ⟨_, rfl⟩; obtain ⟨c15, hc15⟩ : ∃ c1, c1 = co13 - (1 : Int).toNat := ⟨_, rfl⟩; have hy15 : y561.length = t553.length - (1 : Int).toNat := (by rw [Ny561.out, List.length_drop]); rw [← Ny561.out] at hr15; rw [← hy15, ← hA15, ← hc15] at hcut15; replace hr15 : Kd.Q (Kd.int .i64) 3 w14 w.heap.size (fun _ => True) (.slice A15 y561.length c15) y561 := (by rw [hA15, hc15, hy15]; exact hr15); have HE15 : Aside0 ((Value.slice A15 y561.length c15).ownBlock = (.slice Ao13 t553.length co13 : Value).ownBlock) := ⟨by rw [hA15]; split <;> (cases (Ao13 : Option Addr) <;> rfl)⟩; clear hy15 hi015 hsz15 HO555 hA15 hc15; have HO563 := Aside0.mk hr15; clear hr15; replace q15 := eq_true q15))
 go_ret
 exact ⟨_, by first | rfl | (simp [errW_none, errW_some] <;> rfl) | (simp [*, errW_none, errW_some] <;> rfl), by (with_reducible repeat (first | apply Kd.Q_alloc | apply Kd.Q_drewN | apply Kd.Q_drew)); exact HO563.out, by repeat (first | (with_reducible first | exact HB.out | apply below_alloc | apply pw_below_drewN | apply below_drew1 | refine below_set ?_ (IsS129.ge HI552.out)) | exact HB.out)⟩
end Go.Proofs.Ytjplcongellcmaa.PFnPhasesWork
