/- What each Go function that the statement FnPhasesWork reaches answers, proved call by call. No condition beyond those that the theorems print. (Written by wip/tools/xprint.py of this repo, over the kit's print.) -/
import Derived.Test.YtjplcongellcmaaPFnPhasesWorkx0
import Derived.Test.YtjplcongellcmaaPFnPhasesWorkx1
import Derived.Test.YtjplcongellcmaaPFnPhasesWorkx5
import Derived.Test.YtjplcongellcmaaPFnPhasesWorkx9
namespace Go.Proofs.Ytjplcongellcmaa.PFnPhasesWork
open Go.RowKit Go.Proofs.YtjplcongellcmaaW.PrintWords Go.Proofs.YtjplcongellcmaaW.PrintLast Go.Proofs.YtjplcongellcmaaW.PrintMore
attribute [local go_sem] max2_int min2_int max_two min_two max_three min_three max_four min_four   -- for this text's walks alone
set_option linter.unusedVariables false
set_option linter.unusedSimpArgs false
def x10a0 : Array Bool := #[false, false, false, false, false, false, false, false, false, false, false, false, false, false, false]
def x10a1 : Array Bool := #[true, false, false, false, false, false, false, false, false, false, false, false, false, false, false]
def x10a2 : Array Bool := #[true, true, false, false, false, false, false, false, false, false, false, false, false, false, false]
def x10a3 : Array Bool := #[true, true, true, false, false, false, false, false, false, false, false, false, false, false, false]
def x10a4 : Array Bool := #[true, true, true, true, false, false, false, false, false, false, false, false, false, false, false]
def x10a5 : Array Bool := #[true, true, true, true, true, false, false, false, false, false, false, false, false, false, false]
def x10a6 : Array Bool := #[true, true, true, true, true, true, false, false, false, false, false, false, false, false, false]
def x10a7 : Array Bool := #[true, true, true, true, true, true, false, true, false, false, false, false, false, false, false]
def x10a8 : Array Bool := #[true, true, true, true, true, true, false, true, true, false, false, false, false, false, false]
def x10a9 : Array Bool := #[true, true, true, true, true, true, false, true, true, true, false, false, false, false, false]
def x10a10 : Array Bool := #[true, true, true, true, true, true, true, true, true, true, false, false, false, false, false]
def x10a11 : Array Bool := #[true, true, true, true, true, true, true, true, true, true, true, false, false, false, false]
def x10a12 : Array Bool := #[true, true, true, true, true, true, true, true, true, true, true, true, false, false, false]
def x10a13 : Array Bool := #[true, true, true, true, true, true, true, true, true, true, true, true, true, false, false]
def x10a14 : Array Bool := #[true, true, true, true, true, true, true, true, true, true, true, true, true, true, false]
def x10a15 : Array Bool := #[true, true, true, true, true, true, true, true, true, true, true, true, true, true, true]

/-! ### impl_JoinPhases: function 172 -/
mutual
def impl_JoinPhases.l0 : Nat → List (List Int) → Int → Int → List (List Int) → Int → Int → Option (List Int × Bool)
 | 0, _, _, _, _, _, _ => none
 | k + 1, x0, x4, x5, x15, x16, x17 => if x17 < x16 then (if 0 ≤ x17 then (if x17 < (x15.length : Int) then (if x17 > 0 then (if 0 ≤ (wrap64 (x17 - 1)) then (if (wrap64 (x17 - 1)) < (x0.length : Int) then (if ((rd_L2 x15 x17).length : Int) > ((rd_L2 x0 (wrap64 (x17 - 1))).length : Int) then (some (([] : List Int), false)) else (if 0 < (x0.length : Int) then (if ((rd_L2 x15 x17).length : Int) < (wrap64 (((rd_L2 x0 0).length : Int) - 1)) then (some (([] : List Int), false)) else (impl_JoinPhases.l0 k x0 x4 (wrap64 (x5 + ((rd_L2 x15 x17).length : Int))) x15 x16 (wrap64 (x17 + 1)))) else (none))) else (none)) else (none)) else (if 0 < (x0.length : Int) then (if ((rd_L2 x15 x17).length : Int) < (wrap64 (((rd_L2 x0 0).length : Int) - 1)) then (some (([] : List Int), false)) else (impl_JoinPhases.l0 k x0 x4 (wrap64 (x5 + ((rd_L2 x15 x17).length : Int))) x15 x16 (wrap64 (x17 + 1)))) else (none))) else (none)) else (none)) else (if x5 > 9 then (some (([] : List Int), false)) else (impl_JoinPhases.l1 k x0 x4 (([] : List Int)) x5 0))
def impl_JoinPhases.l1 : Nat → List (List Int) → Int → List Int → Int → Int → Option (List Int × Bool)
 | 0, _, _, _, _, _ => none
 | k + 1, x0, x4, x8, x53, x54 => if x54 < x53 then (if x4 = 0 then (none) else (if 0 ≤ (Int.tmod x54 x4) then (if (Int.tmod x54 x4) < (x0.length : Int) then (if 0 ≤ (wrap64 (Int.tdiv x54 x4)) then (if (wrap64 (Int.tdiv x54 x4)) < ((rd_L2 x0 (Int.tmod x54 x4)).length : Int) then (if x8.length < 17592186044416 then (impl_JoinPhases.l1 k x0 x4 (x8 ++ [rd (rd_L2 x0 (Int.tmod x54 x4)) (wrap64 (Int.tdiv x54 x4))]) x53 (wrap64 (x54 + 1))) else (none)) else (none)) else (none)) else (none)) else (none))) else ((impl_weighed.f k x8).bind fun bt533 => (some (bt533.1, bt533.2)))
end
def impl_JoinPhases.f (k : Nat) (l0 : List (List Int)) : Option (List Int × Bool) := (impl_in.f (l0.length : Int) 1 8).bind fun t520 => (if t520 = true then (impl_JoinPhases.l0 k l0 (l0.length : Int) 0 l0 (l0.length : Int) 0) else (some (([] : List Int), false)))
theorem impl_JoinPhases.mono_l : ∀ k, (∀ y0 y1 y2 y3 y4 y5, LeO (impl_JoinPhases.l0 k y0 y1 y2 y3 y4 y5) (impl_JoinPhases.l0 (k + 1) y0 y1 y2 y3 y4 y5)) ∧ (∀ y0 y1 y2 y3 y4, LeO (impl_JoinPhases.l1 k y0 y1 y2 y3 y4) (impl_JoinPhases.l1 (k + 1) y0 y1 y2 y3 y4))
 | 0 => ⟨fun _ _ _ _ _ _ r h => by simp [impl_JoinPhases.l0] at h, fun _ _ _ _ _ r h => by simp [impl_JoinPhases.l1] at h⟩
 | k + 1 => by
  obtain ⟨ih0, ih1⟩ := impl_JoinPhases.mono_l k
  have m0 := @impl_weighed.mono
  refine ⟨?_, ?_⟩ <;> intros
  ·unfold impl_JoinPhases.l0; exact xM
  ·unfold impl_JoinPhases.l1; exact xM
theorem impl_JoinPhases.mono : ∀ a0 k, LeO (impl_JoinPhases.f k a0) (impl_JoinPhases.f (k + 1) a0) := by
 intro a0 k
 obtain ⟨ih0, ih1⟩ := impl_JoinPhases.mono_l k
 have m0 := @impl_weighed.mono
 unfold impl_JoinPhases.f
 exact xM
def impl_JoinPhases.T17 : Bool × List (List Nat × List Nat) := (true, [([], []), ([], []), ([], []), ([], []), ([2, 3], [2, 3]), ([1, 4], [1, 4]), ([5], [5]), ([], []), ([], []), ([7, 8], [7, 8]), ([6, 9], [6, 9]), ([10], [10]), ([11], [11]), ([0, 12], [0, 12]), ([13, 13, 0, 1, 2, 3, 4, 5, 6, 7, 8, 9, 10, 11, 12, 13], [0, 13])])
def impl_JoinPhases.B17 : List Nat := [0, 0, 0, 0, 12, 30, 62, 0, 0, 384, 1022, 2046, 4094, 8191, 16383]
theorem impl_JoinPhases.tab17 : rtab .any (opsOf Try.f172 17) = impl_JoinPhases.T17 := by kernel_rfl
theorem impl_JoinPhases.bits17 : waitsOk impl_JoinPhases.T17.2 impl_JoinPhases.B17 = true := by kernel_rfl
set_option maxHeartbeats 8000000 in
set_option maxRecDepth 100000 in
theorem impl_JoinPhases.calls (k : Nat) (A0 : Option Addr) (c0 : Nat) (l0 : List (List Int)) (r1 : List Int) (r2 : Bool) (w : World) (hr0 : Kd.C (Kd.slice 3 (Kd.int .i64)) w A0 l0.length l0) (hc0 : l0.length ≤ c0) (h : impl_JoinPhases.f k l0 = some (r1, r2)) :
  Calls Try.prog 172 #[.slice A0 l0.length c0] w fun e w' => ∃ v0_ : Value, e = .returned (.tuple #[v0_, .bool r2]) ∧ Kd.R (Kd.int .i64) 3 w' w.heap.size (fun _ => True) v0_ r1 ∧ Below w.heap.size w w' := by
 have HR0 := Aside0.mk hr0
 have HC0 := Aside0.mk hc0
 clear hr0 hc0
 have HB := Aside0.mk (Below.refl w.heap.size w)
 have H : ((impl_in.f (l0.length : Int) 1 8).bind fun t520 => (if t520 = true then (impl_JoinPhases.l0 k l0 (l0.length : Int) 0 l0 (l0.length : Int) 0) else (some (([] : List Int), false)))) = some (r1, r2) := h
 clear h
 obtain ⟨t520, A2, H⟩ := xO H
 (try dsimp only at H)
 by_cases c3 : t520 = true
 rotate_left
 ·replace c3 := Bool.eq_false_iff.mpr c3
  subst c3
  rw [if_neg (show ¬ (false = true) by decide)] at H
  simp only [Option.some.injEq, Prod.mk.injEq] at H
  obtain ⟨rfl, rfl⟩ := H
  go_enter Try.func172, Try.ntmps172
  go_wp2_with (first | (refine xG (some 13) Try.func223 #[.int .i64 (l0.length : Int), .int .i64 1, .int .i64 8] ?_; (with_reducible refine (impl_in.calls (l0.length : Int) 1 8 false _ A2.out).mono ?_); rintro e w' ⟨rfl, ⟨nd, rfl⟩⟩; refine ⟨_, rfl, ?_⟩))
  go_ret2
  exact ⟨_, by first | rfl | (simp [errW_none, errW_some] <;> rfl) | (simp [*, errW_none, errW_some] <;> rfl), by first | exact Kd.R_nil _ _ _ _ _ | exact Kd.N_nil _ _ _ _ _ | exact Kd.V_nil _ _ _ _ _ | exact Kd.Q_nil _ _ _ _ _ | exact Kd.S_nil _ _ _ _ _, xB HB.out⟩

 subst c3
 rw [if_pos rfl] at H
 have H' := Aside0.mk H
 clear H
 go_enter Try.func172, Try.ntmps172
 go_wp2_with (first | (refine xG (some 13) Try.func223 #[.int .i64 (l0.length : Int), .int .i64 1, .int .i64 8] ?_; (with_reducible refine (impl_in.calls (l0.length : Int) 1 8 true _ A2.out).mono ?_); rintro e w' ⟨rfl, ⟨nd, rfl⟩⟩; refine ⟨_, rfl, ?_⟩))
 go_loopg [5, 17] k (fun kq v5 v17 w' => ∃ (x5_1 : Int) (x17_1 : Int), v5 = .int .i64 x5_1 ∧ v17 = .int .i64 x17_1 ∧ Aside0 (impl_JoinPhases.l0 kq l0 (l0.length : Int) x5_1 l0 (l0.length : Int) x17_1 = some (r1, r2)) ∧ Aside0 (kq ≤ k) ∧ Aside0 (Below w.heap.size w w'))
 case atStart => exact ⟨(0), (0), (by first | rfl | (simp; done) | (simp [*]; done)), (by first | rfl | (simp; done) | (simp [*]; done)), H', ⟨Nat.le_refl _⟩, ⟨xB HB.out⟩⟩
 case round =>
  clear H'
  try clear c3
  obtain ⟨x5_1, x17_1, rfl, rfl, HA, HK1, HB⟩ := hrel
  cases gk with
  | zero => exact absurd HA.out (by simp [impl_JoinPhases.l0])
  | succ k1 =>
   have H := HA.out
   clear HA
   simp only [impl_JoinPhases.l0] at H
   by_cases c4 : x17_1 < (l0.length : Int)
   ·rw [if_pos c4] at H
    have c4b0 : decide (x17_1 < (l0.length : Int)) = true := decide_eq_true c4
    clear c4
    by_cases c5 : 0 ≤ x17_1
    rotate_left
    ·rw [if_neg c5] at H
     exact absurd H (by simp)
    rw [if_pos c5] at H
    have c5b0 : decide (0 ≤ x17_1) = true := decide_eq_true c5
    clear c5
    by_cases c6 : x17_1 < (l0.length : Int)
    rotate_left
    ·rw [if_neg c6] at H
     exact absurd H (by simp)
    rw [if_pos c6] at H
    have c6b0 : decide (x17_1 < (l0.length : Int)) = true := decide_eq_true c6
    clear c6
    by_cases c7 : x17_1 > 0
    rotate_left
    ·rw [if_neg c7] at H
     have c7b0 : decide (0 < x17_1) = false := decide_eq_false c7
     clear c7
     by_cases c14 : 0 < (l0.length : Int)
     rotate_left
     ·rw [if_neg c14] at H
      exact absurd H (by simp)
     rw [if_pos c14] at H
     have c14b0 : decide (0 < (l0.length : Int)) = true := decide_eq_true c14
     have c14b1 : decide (0 < l0.length) = true := decide_eq_true (by omega)
     clear c14
     by_cases c15 : ((rd_L2 l0 x17_1).length : Int) < (wrap64 (((rd_L2 l0 0).length : Int) - 1))
     ·rw [if_pos c15] at H
      have c15b0 : decide (((rd_L2 l0 x17_1).length : Int) < (wrap64 (((rd_L2 l0 0).length : Int) - 1))) = true := decide_eq_true c15
      clear c15
      simp only [Option.some.injEq, Prod.mk.injEq] at H
      obtain ⟨rfl, rfl⟩ := H
      have p521 : 0 ≤ (x17_1 : Int) := of_decide_eq_true (by first | (with_reducible assumption) | assumption)
      have q521 : x17_1 < (l0.length : Int) := of_decide_eq_true (by first | (with_reducible assumption) | assumption)
      obtain ⟨ad521, A521_0, c521_0, e521, hx521_0, hl521_0, hi521_0⟩ := at_L2 HR0.out x17_1 p521 q521
      cases e521
      replace hx521_0 := (HB.out.cell (World.block_lt_of_cell? w _ hx521_0)).trans hx521_0
      have HR521_0 := Aside0.mk hi521_0
      have HC521_0 := Aside0.mk hl521_0
      clear hi521_0 hl521_0
      replace p521 := eq_true p521
      replace q521 := eq_true q521
      have p524 : 0 ≤ (0 : Int) := (by omega)
      have q524 : 0 < (l0.length : Int) := of_decide_eq_true (by first | (with_reducible assumption) | assumption)
      obtain ⟨ad524, A524_0, c524_0, e524, hx524_0, hl524_0, hi524_0⟩ := at_L2 HR0.out 0 p524 q524
      obtain rfl : ad521 = ad524 := (by injection e524)
      have qi524 : (0 < l0.length) = True := eq_true (by omega)
      (try rw [show ((0 : Int)).toNat = 0 from rfl] at hx524_0)
      (try rw [Addr.add_zero'] at hx524_0)
      replace hx524_0 := (HB.out.cell (World.block_lt_of_cell? w _ hx524_0)).trans hx524_0
      have HR524_0 := Aside0.mk hi524_0
      have HC524_0 := Aside0.mk hl524_0
      clear hi524_0 hl524_0
      replace p524 := eq_true p524
      replace q524 := eq_true q524
      go_wp2
      go_ret2
      exact ⟨_, by first | rfl | (simp [errW_none, errW_some] <;> rfl) | (simp [*, errW_none, errW_some] <;> rfl), by first | exact Kd.R_nil _ _ _ _ _ | exact Kd.N_nil _ _ _ _ _ | exact Kd.V_nil _ _ _ _ _ | exact Kd.Q_nil _ _ _ _ _ | exact Kd.S_nil _ _ _ _ _, xB HB.out⟩
     rw [if_neg c15] at H
     have c15b0 : decide (((rd_L2 l0 x17_1).length : Int) < (wrap64 (((rd_L2 l0 0).length : Int) - 1))) = false := decide_eq_false c15
     clear c15
     have H' := Aside0.mk H
     clear H
     have p521 : 0 ≤ (x17_1 : Int) := of_decide_eq_true (by first | (with_reducible assumption) | assumption)
     have q521 : x17_1 < (l0.length : Int) := of_decide_eq_true (by first | (with_reducible assumption) | assumption)
     obtain ⟨ad521, A521_0, c521_0, e521, hx521_0, hl521_0, hi521_0⟩ := at_L2 HR0.out x17_1 p521 q521
     cases e521
     replace hx521_0 := (HB.out.cell (World.block_lt_of_cell? w _ hx521_0)).trans hx521_0
     have HR521_0 := Aside0.mk hi521_0
     have HC521_0 := Aside0.mk hl521_0
     clear hi521_0 hl521_0
     replace p521 := eq_true p521
     replace q521 := eq_true q521
     have p524 : 0 ≤ (0 : Int) := (by omega)
     have q524 : 0 < (l0.length : Int) := of_decide_eq_true (by first | (with_reducible assumption) | assumption)
     obtain ⟨ad524, A524_0, c524_0, e524, hx524_0, hl524_0, hi524_0⟩ := at_L2 HR0.out 0 p524 q524
     obtain rfl : ad521 = ad524 := (by injection e524)
     have qi524 : (0 < l0.length) = True := eq_true (by omega)
     (try rw [show ((0 : Int)).toNat = 0 from rfl] at hx524_0)
     (try rw [Addr.add_zero'] at hx524_0)
     replace hx524_0 := (HB.out.cell (World.block_lt_of_cell? w _ hx524_0)).trans hx524_0
     have HR524_0 := Aside0.mk hi524_0
     have HC524_0 := Aside0.mk hl524_0
     clear hi524_0 hl524_0
     replace p524 := eq_true p524
     replace q524 := eq_true q524
     go_wp2
     go_roundg k1
     case measure => have := HK1.out; omega
     case rel => exact ⟨(wrap64 (x5_1 + ((rd_L2 l0 x17_1).length : Int))), (wrap64 (x17_1 + 1)), (by first | rfl | (simp; done) | (simp [*]; done)), (by first | rfl | (simp; done) | (simp [*]; done)), H', ⟨by have := HK1.out; omega⟩, ⟨xB HB.out⟩⟩
    rw [if_pos c7] at H
    have c7b0 : decide (0 < x17_1) = true := decide_eq_true c7
    clear c7
    obtain ⟨ji8, hji8⟩ : ∃ j_ : Int, (wrap64 (x17_1 - 1)) = j_ := ⟨_, rfl⟩
    replace H : (if 0 ≤ (ji8) then (if (ji8) < (l0.length : Int) then (if ((rd_L2 l0 x17_1).length : Int) > ((rd_L2 l0 (ji8)).length : Int) then (some (([] : List Int), false)) else (if 0 < (l0.length : Int) then (if ((rd_L2 l0 x17_1).length : Int) < (wrap64 (((rd_L2 l0 0).length : Int) - 1)) then (some (([] : List Int), false)) else (impl_JoinPhases.l0 k1 l0 (l0.length : Int) (wrap64 (x5_1 + ((rd_L2 l0 x17_1).length : Int))) l0 (l0.length : Int) (wrap64 (x17_1 + 1)))) else (none))) else (none)) else (none)) = some (r1, r2) := by first | (rw [hji8] at H; exact H) | (simp only [hji8] at H ⊢; exact H)
    have hji8w : (IntKind.i64.wrap (x17_1 - 1)) = ji8 := (i64_w _).trans hji8
    by_cases c9 : 0 ≤ (ji8)
    rotate_left
    ·rw [if_neg c9] at H
     exact absurd H (by simp)
    rw [if_pos c9] at H
    have c9b0 : decide (0 ≤ (ji8)) = true := decide_eq_true c9
    clear c9
    by_cases c10 : (ji8) < (l0.length : Int)
    rotate_left
    ·rw [if_neg c10] at H
     exact absurd H (by simp)
    rw [if_pos c10] at H
    have c10b0 : decide ((ji8) < (l0.length : Int)) = true := decide_eq_true c10
    clear c10
    by_cases c11 : ((rd_L2 l0 x17_1).length : Int) > ((rd_L2 l0 (ji8)).length : Int)
    ·rw [if_pos c11] at H
     have c11b0 : decide (((rd_L2 l0 (ji8)).length : Int) < ((rd_L2 l0 x17_1).length : Int)) = true := decide_eq_true c11
     have c11b1 : decide ((rd_L2 l0 (ji8)).length < (rd_L2 l0 x17_1).length) = true := decide_eq_true (Int.ofNat_lt.mp c11)
     clear c11
     simp only [Option.some.injEq, Prod.mk.injEq] at H
     obtain ⟨rfl, rfl⟩ := H
     have p521 : 0 ≤ (x17_1 : Int) := of_decide_eq_true (by first | (with_reducible assumption) | assumption)
     have q521 : x17_1 < (l0.length : Int) := of_decide_eq_true (by first | (with_reducible assumption) | assumption)
     obtain ⟨ad521, A521_0, c521_0, e521, hx521_0, hl521_0, hi521_0⟩ := at_L2 HR0.out x17_1 p521 q521
     cases e521
     replace hx521_0 := (HB.out.cell (World.block_lt_of_cell? w _ hx521_0)).trans hx521_0
     have HR521_0 := Aside0.mk hi521_0
     have HC521_0 := Aside0.mk hl521_0
     clear hi521_0 hl521_0
     replace p521 := eq_true p521
     replace q521 := eq_true q521
     have p522 : 0 ≤ ((ji8) : Int) := of_decide_eq_true (by first | (with_reducible assumption) | assumption | (rw [← hji8]; first | (with_reducible assumption) | assumption))
     have q522 : (ji8) < (l0.length : Int) := of_decide_eq_true (by first | (with_reducible assumption) | assumption | (rw [← hji8]; first | (with_reducible assumption) | assumption))
     obtain ⟨ad522, A522_0, c522_0, e522, hx522_0, hl522_0, hi522_0⟩ := at_L2 HR0.out (ji8) p522 q522
     obtain rfl : ad521 = ad522 := (by injection e522)
     replace hx522_0 := (HB.out.cell (World.block_lt_of_cell? w _ hx522_0)).trans hx522_0
     have HR522_0 := Aside0.mk hi522_0
     have HC522_0 := Aside0.mk hl522_0
     clear hi522_0 hl522_0
     replace p522 := eq_true p522
     replace q522 := eq_true q522
     go_wp2
     go_ret2
     exact ⟨_, by first | rfl | (simp [errW_none, errW_some] <;> rfl) | (simp only [← hji8]; first | rfl | (simp [errW_none, errW_some] <;> rfl)) | (simp [*, errW_none, errW_some] <;> rfl), by first | exact Kd.R_nil _ _ _ _ _ | exact Kd.N_nil _ _ _ _ _ | exact Kd.V_nil _ _ _ _ _ | exact Kd.Q_nil _ _ _ _ _ | exact Kd.S_nil _ _ _ _ _, xB HB.out⟩
    rw [if_neg c11] at H
    have c11b0 : decide (((rd_L2 l0 (ji8)).length : Int) < ((rd_L2 l0 x17_1).length : Int)) = false := decide_eq_false c11
    have c11b1 : decide ((rd_L2 l0 (ji8)).length < (rd_L2 l0 x17_1).length) = false := decide_eq_false (fun h => c11 (Int.ofNat_lt.mpr h))
    clear c11
    by_cases c12 : 0 < (l0.length : Int)
    rotate_left
    ·rw [if_neg c12] at H
     exact absurd H (by simp)
    rw [if_pos c12] at H
    have c12b0 : decide (0 < (l0.length : Int)) = true := decide_eq_true c12
    have c12b1 : decide (0 < l0.length) = true := decide_eq_true (by omega)
    clear c12
    by_cases c13 : ((rd_L2 l0 x17_1).length : Int) < (wrap64 (((rd_L2 l0 0).length : Int) - 1))
    ·rw [if_pos c13] at H
     have c13b0 : decide (((rd_L2 l0 x17_1).length : Int) < (wrap64 (((rd_L2 l0 0).length : Int) - 1))) = true := decide_eq_true c13
     clear c13
     simp only [Option.some.injEq, Prod.mk.injEq] at H
     obtain ⟨rfl, rfl⟩ := H
     have p521 : 0 ≤ (x17_1 : Int) := of_decide_eq_true (by first | (with_reducible assumption) | assumption)
     have q521 : x17_1 < (l0.length : Int) := of_decide_eq_true (by first | (with_reducible assumption) | assumption)
     obtain ⟨ad521, A521_0, c521_0, e521, hx521_0, hl521_0, hi521_0⟩ := at_L2 HR0.out x17_1 p521 q521
     cases e521
     replace hx521_0 := (HB.out.cell (World.block_lt_of_cell? w _ hx521_0)).trans hx521_0
     have HR521_0 := Aside0.mk hi521_0
     have HC521_0 := Aside0.mk hl521_0
     clear hi521_0 hl521_0
     replace p521 := eq_true p521
     replace q521 := eq_true q521
     have p522 : 0 ≤ ((ji8) : Int) := of_decide_eq_true (by first | (with_reducible assumption) | assumption | (rw [← hji8]; first | (with_reducible assumption) | assumption))
     have q522 : (ji8) < (l0.length : Int) := of_decide_eq_true (by first | (with_reducible assumption) | assumption | (rw [← hji8]; first | (with_reducible assumption) | assumption))
     obtain ⟨ad522, A522_0, c522_0, e522, hx522_0, hl522_0, hi522_0⟩ := at_L2 HR0.out (ji8) p522 q522
     obtain rfl : ad521 = ad522 := (by injection e522)
     replace hx522_0 := (HB.out.cell (World.block_lt_of_cell? w _ hx522_0)).trans hx522_0
     have HR522_0 := Aside0.mk hi522_0
     have HC522_0 := Aside0.mk hl522_0
     clear hi522_0 hl522_0
     replace p522 := eq_true p522
     replace q522 := eq_true q522
     have p523 : 0 ≤ (0 : Int) := (by omega)
     have q523 : 0 < (l0.length : Int) := of_decide_eq_true (by first | (with_reducible assumption) | assumption)
     obtain ⟨ad523, A523_0, c523_0, e523, hx523_0, hl523_0, hi523_0⟩ := at_L2 HR0.out 0 p523 q523
     obtain rfl : ad521 = ad523 := (by injection e523)
     have qi523 : (0 < l0.length) = True := eq_true (by omega)
     (try rw [show ((0 : Int)).toNat = 0 from rfl] at hx523_0)
     (try rw [Addr.add_zero'] at hx523_0)
     replace hx523_0 := (HB.out.cell (World.block_lt_of_cell? w _ hx523_0)).trans hx523_0
     have HR523_0 := Aside0.mk hi523_0
     have HC523_0 := Aside0.mk hl523_0
     clear hi523_0 hl523_0
     replace p523 := eq_true p523
     replace q523 := eq_true q523
     go_wp2
     go_ret2
     exact ⟨_, by first | rfl | (simp [errW_none, errW_some] <;> rfl) | (simp only [← hji8]; first | rfl | (simp [errW_none, errW_some] <;> rfl)) | (simp [*, errW_none, errW_some] <;> rfl), by first | exact Kd.R_nil _ _ _ _ _ | exact Kd.N_nil _ _ _ _ _ | exact Kd.V_nil _ _ _ _ _ | exact Kd.Q_nil _ _ _ _ _ | exact Kd.S_nil _ _ _ _ _, xB HB.out⟩
    rw [if_neg c13] at H
    have c13b0 : decide (((rd_L2 l0 x17_1).length : Int) < (wrap64 (((rd_L2 l0 0).length : Int) - 1))) = false := decide_eq_false c13
    clear c13
    have H' := Aside0.mk H
    clear H
    have p521 : 0 ≤ (x17_1 : Int) := of_decide_eq_true (by first | (with_reducible assumption) | assumption)
    have q521 : x17_1 < (l0.length : Int) := of_decide_eq_true (by first | (with_reducible assumption) | assumption)
    obtain ⟨ad521, A521_0, c521_0, e521, hx521_0, hl521_0, hi521_0⟩ := at_L2 HR0.out x17_1 p521 q521
    cases e521
    replace hx521_0 := (HB.out.cell (World.block_lt_of_cell? w _ hx521_0)).trans hx521_0
    have HR521_0 := Aside0.mk hi521_0
    have HC521_0 := Aside0.mk hl521_0
    clear hi521_0 hl521_0
    replace p521 := eq_true p521
    replace q521 := eq_true q521
    have p522 : 0 ≤ ((ji8) : Int) := of_decide_eq_true (by first | (with_reducible assumption) | assumption | (rw [← hji8]; first | (with_reducible assumption) | assumption))
    have q522 : (ji8) < (l0.length : Int) := of_decide_eq_true (by first | (with_reducible assumption) | assumption | (rw [← hji8]; first | (with_reducible assumption) | assumption))
    obtain ⟨ad522, A522_0, c522_0, e522, hx522_0, hl522_0, hi522_0⟩ := at_L2 HR0.out (ji8) p522 q522
    obtain rfl : ad521 = ad522 := (by injection e522)
    replace hx522_0 := (HB.out.cell (World.block_lt_of_cell? w _ hx522_0)).trans hx522_0
    have HR522_0 := Aside0.mk hi522_0
    have HC522_0 := Aside0.mk hl522_0
    clear hi522_0 hl522_0
    replace p522 := eq_true p522
    replace q522 := eq_true q522
    have p523 : 0 ≤ (0 : Int) := (by omega)
    have q523 : 0 < (l0.length : Int) := of_decide_eq_true (by first | (with_reducible assumption) | assumption)
    obtain ⟨ad523, A523_0, c523_0, e523, hx523_0, hl523_0, hi523_0⟩ := at_L2 HR0.out 0 p523 q523
    obtain rfl : ad521 = ad523 := (by injection e523)
    have qi523 : (0 < l0.length) = True := eq_true (by omega)
    (try rw [show ((0 : Int)).toNat = 0 from rfl] at hx523_0)
    (try rw [Addr.add_zero'] at hx523_0)
    replace hx523_0 := (HB.out.cell (World.block_lt_of_cell? w _ hx523_0)).trans hx523_0
    have HR523_0 := Aside0.mk hi523_0
    have HC523_0 := Aside0.mk hl523_0
    clear hi523_0 hl523_0
    replace p523 := eq_true p523
    replace q523 := eq_true q523
    go_wp2
    go_roundg k1
    case measure => have := HK1.out; omega
    case rel => exact ⟨(wrap64 (x5_1 + ((rd_L2 l0 x17_1).length : Int))), (wrap64 (x17_1 + 1)), (by first | rfl | (simp; done) | (simp [*]; done)), (by first | rfl | (simp; done) | (simp [*]; done)), H', ⟨by have := HK1.out; omega⟩, ⟨xB HB.out⟩⟩
   rw [if_neg c4] at H
   have c4b0 : decide (x17_1 < (l0.length : Int)) = false := decide_eq_false c4
   clear c4
   by_cases c16 : x5_1 > 9
   ·rw [if_pos c16] at H
    have c16b0 : decide (9 < x5_1) = true := decide_eq_true c16
    clear c16
    simp only [Option.some.injEq, Prod.mk.injEq] at H
    obtain ⟨rfl, rfl⟩ := H
    go_wp2
    go_ret2
    exact ⟨_, by first | rfl | (simp [errW_none, errW_some] <;> rfl) | (simp [*, errW_none, errW_some] <;> rfl), by first | exact Kd.R_nil _ _ _ _ _ | exact Kd.N_nil _ _ _ _ _ | exact Kd.V_nil _ _ _ _ _ | exact Kd.Q_nil _ _ _ _ _ | exact Kd.S_nil _ _ _ _ _, xB HB.out⟩
   rw [if_neg c16] at H
   have c16b0 : decide (9 < x5_1) = false := decide_eq_false c16
   clear c16
   obtain ⟨y525, hy525⟩ : ∃ y_ : List Int, y_ = (([] : List Int)) := ⟨_, rfl⟩
   replace H : (impl_JoinPhases.l1 k1 l0 (l0.length : Int) y525 x5_1 0) = some (r1, r2) := by first | (rw [hy525]; with_reducible exact H) | (have H2_ := (Option.bind_some _ _).symm.trans H; rw [hy525]; with_reducible exact H2_) | (have H2_ := (Option.bind_some _ _).symm.trans H; with_reducible exact H2_) | with_reducible exact H | (rw [hy525]; exact H) | exact H
   have Ny525 := Aside0.mk hy525
   clear hy525
   have H' := Aside0.mk H
   clear H
   go_wp2_with (first | ((with_reducible refine gate_dst (N := 52) rfl ?_); (try (refine gate_guard (by rfl) ?_; dsimp only)); refine Kd.R_lit (Kd.int .i64) _ 3 ?hg (N := 52) ?hd (xs := ([] : List Int)) (inner := []) (ok := fun _ => True) (okp := fun _ => True) ?hr ?hp (fun _ hk => hk) trivial (Below.refl _ _) (Nat.le_refl _) (by simp) ?_; (case hd => rfl); (case hg => rfl); (case hr => first | (go_simp; done) | (go_simp; rfl)); (case hp => exact (Reps.none _ _)); intro v526 w17 ho18 hb hg_ hnew_; clear hg_ hnew_; (first | rw [← Ny525.out] at ho18 | (simp only [Int.reduceToNat] at ho18; rw [← Ny525.out] at ho18)); have HO527 := Aside0.mk (Kd.R_lower ho18 (below_size (xB HB.out))); replace HB := Aside0.mk (below_step (xB HB.out) hb); clear hb ho18))
   go_loopg [8, 54] k1 (fun kq v8 v54 w' => ∃ (x8_2 : List Int) (x54_2 : Int), v54 = .int .i64 x54_2 ∧ Aside0 (impl_JoinPhases.l1 kq l0 (l0.length : Int) x8_2 x5_1 x54_2 = some (r1, r2)) ∧ Aside0 (kq ≤ k1) ∧ Aside0 (Kd.R (Kd.int .i64) 3 w' w.heap.size (fun _ => True) v8 x8_2) ∧ Aside0 (Below w.heap.size w w'))
   case atStart => exact ⟨(y525), (0), (by first | rfl | (simp; done) | (simp [*]; done)), H', ⟨Nat.le_refl _⟩, ⟨xR HO527.out⟩, ⟨xB HB.out⟩⟩
   case round =>
    clear H'
    try clear c4b0
    try clear c16b0
    obtain ⟨x8_2, x54_2, rfl, HA, HK2, HO_8, HB⟩ := hrel
    cases gk with
    | zero => exact absurd HA.out (by simp [impl_JoinPhases.l1])
    | succ k2 =>
     have H := HA.out
     clear HA
     simp only [impl_JoinPhases.l1] at H
     by_cases c19 : x54_2 < x5_1
     rotate_left
     ·rw [if_neg c19] at H
      have c19b0 : decide (x54_2 < x5_1) = false := decide_eq_false c19
      clear c19
      replace H := Option.bind_eq_some_iff.mp H
      obtain ⟨⟨t533, t536⟩, A300, H⟩ := H
      (try dsimp only at H)
      have A30 := Aside0.mk A300
      clear A300
      simp only [Option.some.injEq, Prod.mk.injEq] at H
      obtain ⟨rfl, rfl⟩ := H
      obtain ⟨Ao31, co31, eo31⟩ := Kd.R_slice HO_8.out
      subst eo31
      go_wp2_with (first | (refine xG (some 73) Try.func277 #[.slice Ao31 x8_2.length co31] ?_; (with_reducible refine (impl_weighed.calls k2 (fun k_ => some k_ = (.slice Ao31 x8_2.length co31 : Value).ownBlock) (.slice Ao31 x8_2.length co31) x8_2 t533 t536 w _ ?side1 ?side2 A30.out).mono ?_); (case side1 => repeat (first | (with_reducible first | exact HB.out | apply below_alloc | apply pw_below_drewN | apply below_drew1) | exact HB.out)); (case side2 => exact Kd.R_tight rfl HO_8.out); rintro e w32 ⟨v534, rfl, ho0, hb, hkp⟩; refine ⟨_, rfl, ?_⟩; have HO535 := Aside0.mk (Kd.R_mono (ok' := fun k_ => True) ho0 (fun k_ hk_ => trivial)); replace HB := Aside0.mk (hb); clear HO_8; (try clear hb); (try clear hkp); (try clear ho0)))
      go_ret2
      exact ⟨_, by first | rfl | (simp [errW_none, errW_some] <;> rfl) | (simp [*, errW_none, errW_some] <;> rfl), xR HO535.out, xB HB.out⟩
     rw [if_pos c19] at H
     have c19b0 : decide (x54_2 < x5_1) = true := decide_eq_true c19
     clear c19
     by_cases c20 : (l0.length : Int) = 0
     ·rw [if_pos c20] at H
      exact absurd H (by simp)
     rw [if_neg c20] at H
     have c20b0 : ((l0.length : Int) == 0) = false := beq_eq_false_iff_ne.mpr c20
     have c20b1 : ((l0.length : Int) != 0) = true := bne_iff_ne.mpr c20
     have c20b2 : ¬ (l0 = []) := fun h_ => c20 (by rw [h_]; rfl)
     obtain ⟨ji21, hji21⟩ : ∃ j_ : Int, (Int.tmod x54_2 (l0.length : Int)) = j_ := ⟨_, rfl⟩
     replace H : (if 0 ≤ (ji21) then (if (ji21) < (l0.length : Int) then (if 0 ≤ (wrap64 (Int.tdiv x54_2 (l0.length : Int))) then (if (wrap64 (Int.tdiv x54_2 (l0.length : Int))) < ((rd_L2 l0 (ji21)).length : Int) then (if x8_2.length < 17592186044416 then (impl_JoinPhases.l1 k2 l0 (l0.length : Int) (x8_2 ++ [rd (rd_L2 l0 (ji21)) (wrap64 (Int.tdiv x54_2 (l0.length : Int)))]) x5_1 (wrap64 (x54_2 + 1))) else (none)) else (none)) else (none)) else (none)) else (none)) = some (r1, r2) := by first | (rw [hji21] at H; exact H) | (simp only [hji21] at H ⊢; exact H)
     by_cases c22 : 0 ≤ (ji21)
     rotate_left
     ·rw [if_neg c22] at H
      exact absurd H (by simp)
     rw [if_pos c22] at H
     have c22b0 : decide (0 ≤ (ji21)) = true := decide_eq_true c22
     clear c22
     by_cases c23 : (ji21) < (l0.length : Int)
     rotate_left
     ·rw [if_neg c23] at H
      exact absurd H (by simp)
     rw [if_pos c23] at H
     have c23b0 : decide ((ji21) < (l0.length : Int)) = true := decide_eq_true c23
     clear c23
     obtain ⟨ji24, hji24⟩ : ∃ j_ : Int, (wrap64 (Int.tdiv x54_2 (l0.length : Int))) = j_ := ⟨_, rfl⟩
     replace H : (if 0 ≤ (ji24) then (if (ji24) < ((rd_L2 l0 (ji21)).length : Int) then (if x8_2.length < 17592186044416 then (impl_JoinPhases.l1 k2 l0 (l0.length : Int) (x8_2 ++ [rd (rd_L2 l0 (ji21)) (ji24)]) x5_1 (wrap64 (x54_2 + 1))) else (none)) else (none)) else (none)) = some (r1, r2) := by first | (rw [hji24] at H; exact H) | (simp only [hji24] at H ⊢; exact H)
     have hji24w : (IntKind.i64.wrap (Int.tdiv x54_2 (l0.length : Int))) = ji24 := (i64_w _).trans hji24
     by_cases c25 : 0 ≤ (ji24)
     rotate_left
     ·rw [if_neg c25] at H
      exact absurd H (by simp)
     rw [if_pos c25] at H
     have c25b0 : decide (0 ≤ (ji24)) = true := decide_eq_true c25
     clear c25
     by_cases c26 : (ji24) < ((rd_L2 l0 (ji21)).length : Int)
     rotate_left
     ·rw [if_neg c26] at H
      exact absurd H (by simp)
     rw [if_pos c26] at H
     have c26b0 : decide ((ji24) < ((rd_L2 l0 (ji21)).length : Int)) = true := decide_eq_true c26
     clear c26
     by_cases c27 : x8_2.length < 17592186044416
     rotate_left
     ·rw [if_neg c27] at H
      exact absurd H (by simp)
     rw [if_pos c27] at H
     have LMc27 := Aside0.mk c27
     clear c27
     obtain ⟨y530, hy530⟩ : ∃ y_ : List Int, y_ = (x8_2 ++ [rd (rd_L2 l0 (ji21)) (ji24)]) := ⟨_, rfl⟩
     replace H : (impl_JoinPhases.l1 k2 l0 (l0.length : Int) y530 x5_1 (wrap64 (x54_2 + 1))) = some (r1, r2) := by first | (rw [hy530]; with_reducible exact H) | (have H2_ := (Option.bind_some _ _).symm.trans H; rw [hy530]; with_reducible exact H2_) | (have H2_ := (Option.bind_some _ _).symm.trans H; with_reducible exact H2_) | with_reducible exact H | (rw [hy530]; exact H) | exact H
     have Ny530 := Aside0.mk hy530
     clear hy530
     have H' := Aside0.mk H
     clear H
     try go_wp2
     have n0_ := Aside0.mk (Kd.R_drew HO_8.out)
     have n1_ := Aside0.mk (below_drew1 HB.out)
     clear HO_8
     clear HB
     have HO_8 := n0_
     have HB := n1_
     clear n0_ n1_
     have p528 : 0 ≤ ((ji21) : Int) := of_decide_eq_true (by first | (with_reducible assumption) | assumption | (rw [← hji21]; first | (with_reducible assumption) | assumption))
     have q528 : (ji21) < (l0.length : Int) := of_decide_eq_true (by first | (with_reducible assumption) | assumption | (rw [← hji21]; first | (with_reducible assumption) | assumption))
     obtain ⟨ad528, A528_0, c528_0, e528, hx528_0, hl528_0, hi528_0⟩ := at_L2 HR0.out (ji21) p528 q528
     have hw528_0 := hx528_0
     cases e528
     replace hx528_0 := (HB.out.cell (World.block_lt_of_cell? w _ hx528_0)).trans hx528_0
     have HR528_0 := Aside0.mk hi528_0
     have HC528_0 := Aside0.mk hl528_0
     clear hi528_0 hl528_0
     replace p528 := eq_true p528
     replace q528 := eq_true q528
     have p529 : 0 ≤ ((ji24) : Int) := of_decide_eq_true (by first | (with_reducible assumption) | assumption | (rw [← hji24]; first | (with_reducible assumption) | assumption))
     have q529 : (ji24) < ((rd_L2 l0 (ji21)).length : Int) := of_decide_eq_true (by first | (with_reducible assumption) | assumption | (rw [← hji24]; first | (with_reducible assumption) | assumption))
     obtain ⟨ad529, e529, hx529_0⟩ := Kd.at_int HR528_0.out (ji24) p529 q529
     have hw529_0 := hx529_0
     cases e529
     (try replace hx529_0 := (HB.out.cell (World.block_lt_of_cell? w _ hx529_0)).trans hx529_0)
     replace p529 := eq_true p529
     replace q529 := eq_true q529
     refine start_ (n := 15) (S := fun w' => w'.cell? (ad528.add ((ji21)).toNat) = some (.slice (some ad529) (rd_L2 l0 (ji21)).length c528_0) ∧ w'.cell? (ad529.add ((ji24)).toNat) = some (.int .i64 (rd (rd_L2 l0 (ji21)) (ji24)))) (ds := []) x10a0 (by kernel_rfl) rfl rfl ⟨((HB.out.cell (World.block_lt_of_cell? w _ hw528_0)).trans hw528_0), ((HB.out.cell (World.block_lt_of_cell? w _ hw529_0)).trans hw529_0)⟩ (fun hHeld => ?_); refine with_tabW impl_JoinPhases.tab17 impl_JoinPhases.bits17 (fun HT_ HW_ => ?_)
     generalize wr.drew = w28 at HO_8 HB HR528_0 hx528_0 hx529_0 hHeld ⊢
     refine pure_ (i := 0) (N := some 57) (v := ?_) (a' := ?_) x10a1 rfl rfl (any_of HT_.out (by kernel_rfl)) (fun _ _ _ h => h) (Or.inl ⟨by rfl, ?_⟩) ?_ ?_; rotate_left; (intro w'; go_simp; with_reducible rfl); rotate_left; exact xE
     refine pure_ (i := 1) (N := some 58) (v := ?_) (a' := ?_) x10a2 rfl rfl (any_of HT_.out (by kernel_rfl)) (fun _ _ _ h => h) (Or.inl ⟨by rfl, ?_⟩) ?_ ?_; rotate_left; (intro w'; go_simp; with_reducible rfl); rotate_left; exact xE
     refine pure_ (i := 2) (N := some 59) (v := ?_) (a' := ?_) x10a3 rfl rfl (any_of HT_.out (by kernel_rfl)) (fun _ _ _ h => h) (Or.inl ⟨by rfl, ?_⟩) ?_ ?_; rotate_left; (intro w'; go_simp; with_reducible rfl); rotate_left; exact xE
     refine pure_ (i := 3) (N := some 60) (v := ?_) (a' := ?_) x10a4 rfl rfl (any_of HT_.out (by kernel_rfl)) (fun _ _ _ h => h) (Or.inl ⟨by rfl, ?_⟩) ?_ ?_; rotate_left; (intro w'; go_simp; with_reducible rfl); rotate_left; exact xE
     refine pure_ (i := 4) (N := some 61) (v := ?_) (a' := ?_) x10a5 rfl rfl (any_of HT_.out (by kernel_rfl)) (fun _ _ _ h => h) (Or.inl ⟨by rfl, ?_⟩) ?_ ?_; rotate_left; (intro w'; go_simp; with_reducible rfl); rotate_left; exact xE
     refine pure_ (i := 5) (N := some 62) (v := ?_) (a' := ?_) x10a6 rfl rfl (any_of HT_.out (by kernel_rfl)) (fun _ _ _ h => h) (Or.inl ⟨by rfl, ?_⟩) ?_ ?_; rotate_left; (intro w'; go_simp; with_reducible rfl); rotate_left; exact xE
     refine pure_ (i := 7) (N := some 64) (v := ?_) (a' := ?_) x10a7 rfl rfl (any_of HT_.out (by kernel_rfl)) (fun _ _ _ h => h) (Or.inl ⟨by rfl, ?_⟩) ?_ ?_; rotate_left; (intro w'; go_simp; with_reducible rfl); rotate_left; exact xE
     refine pure_ (i := 8) (N := some 65) (v := ?_) (a' := ?_) x10a8 rfl rfl (any_of HT_.out (by kernel_rfl)) (fun _ _ _ h => h) (Or.inl ⟨by rfl, ?_⟩) ?_ ?_; rotate_left; (intro w'; go_simp; with_reducible rfl); rotate_left; exact xE
     refine pure_ (i := 9) (N := some 66) (v := ?_) (a' := ?_) x10a9 rfl rfl (any_of HT_.out (by kernel_rfl)) (fun _ _ _ h => h) (Or.inl ⟨by rfl, ?_⟩) ?_ ?_; rotate_left; (intro w'; go_simp; with_reducible rfl); rotate_left; exact xE
     refine take_ (i := 6) (N := some 63) (v := ?_) (a' := ?_) x10a10 rfl rfl (take_ofW HT_.out HW_.out (by kernel_rfl)) (fun _ _ _ h => h) (Or.inl ⟨by rfl, ?_⟩) hHeld ?_ ?_
     rotate_left
     ·rintro w' ⟨s0, s1⟩
      go_simp
      with_reducible rfl
     rotate_left
     ·exact xE
     refine pure_ (i := 10) (N := some 67) (v := ?_) (a' := ?_) x10a11 rfl rfl (any_of HT_.out (by kernel_rfl)) (fun _ _ _ h => h) (Or.inl ⟨by rfl, ?_⟩) ?_ ?_; rotate_left; (intro w'; go_simp; with_reducible rfl); rotate_left; exact xE
     refine take_ (i := 11) (N := some 68) (v := ?_) (a' := ?_) x10a12 rfl rfl (take_ofW HT_.out HW_.out (by kernel_rfl)) (fun _ _ _ h => h) (Or.inl ⟨by rfl, ?_⟩) hHeld ?_ ?_
     rotate_left
     ·rintro w' ⟨s0, s1⟩
      go_simp
      with_reducible rfl
     rotate_left
     ·exact xE
     refine one_ (i := 12) (N := some 69) x10a13 rfl rfl (one_of HT_.out (by kernel_rfl)) (by decide) (fun K hK => ?_)
     refine value_ (w1 := ?_) (v := ?_) (by rfl) rfl ?_ ?_
     rotate_left 2
     ·go_simp
      constructor
      ·rfl
      ·rfl
     refine hK.out _ _ ⟨(World.cell?_alloc_lt _ _ _ (World.block_lt_of_cell? _ _ (((HB.out.cell (World.block_lt_of_cell? w _ hw528_0)).trans hw528_0)))).trans (((HB.out.cell (World.block_lt_of_cell? w _ hw528_0)).trans hw528_0)), (World.cell?_alloc_lt _ _ _ (World.block_lt_of_cell? _ _ (((HB.out.cell (World.block_lt_of_cell? w _ hw529_0)).trans hw529_0)))).trans (((HB.out.cell (World.block_lt_of_cell? w _ hw529_0)).trans hw529_0))⟩ (fun hHeld => ?_)
     clear hK K
     refine norm_ (a' := ?_) ?_ ?_
     rotate_left
     ·show Act.put _ (some 69) _ = _
      simp only [Act.put, List.setIfInBounds_toArray, List.set_cons_zero, List.set_cons_succ, i64_w, i32_w]
      rfl
     refine one_ (i := 13) (N := some 70) x10a14 rfl rfl (one_of HT_.out (by kernel_rfl)) (by decide) (fun K hK => ?_)
     refine Kd.R_append_step (Kd.int .i64) (w0 := w) w.heap.size (by rfl) (.tmp 57) (.tmp 69) 24 3 (.int .i64 0) 8 rfl Try.underlying24 info3 rfl (by decide) (by omega) u8 x8_2 (rd (rd_L2 l0 (ji21)) (ji24)) [.int .i64 (rd (rd_L2 l0 (ji21)) (ji24))] (fun _ => True) (fun _ => False) rfl rfl ?aP (fun _ hk => hk.elim) ?aF ?aO ?aB ?aS ?aL ?_
     (case aP => exact rfl)
     (case aB => exact (xB HB.out))
     (case aF => exact (fun _ _ => trivial))
     (case aO => exact (xR HO_8.out))
     (case aS => exact (below_size (xB HB.out)))
     (case aL => have := LMc27.out; omega)
     intro v531 w29 ho hb hg hat
     rw [← Ny530.out] at ho
     have n0_ := Aside0.mk (hb)
     have n1_ := Aside0.mk (ho)
     clear HB
     clear HO_8
     have HB := n0_
     have HO532 := n1_
     clear n0_ n1_
     clear ho hb hg hat
     refine hK.out _ _ ⟨((HB.out.cell (World.block_lt_of_cell? w _ hw528_0)).trans hw528_0), ((HB.out.cell (World.block_lt_of_cell? w _ hw529_0)).trans hw529_0)⟩ (fun hHeld => ?_)
     clear hK K
     refine norm_ (a' := ?_) ?_ ?_
     rotate_left
     ·show Act.put _ (some 70) _ = _
      simp only [Act.put, List.setIfInBounds_toArray, List.set_cons_zero, List.set_cons_succ, i64_w, i32_w]
      rfl
     refine pure_ (i := 14) (N := some 8) (v := ?_) (a' := ?_) x10a15 rfl rfl (any_of HT_.out (by kernel_rfl)) (fun _ _ _ h => h) (Or.inl ⟨by rfl, ?_⟩) ?_ ?_; rotate_left; (intro w'; go_simp; with_reducible rfl); rotate_left; exact xE
     refine done_ (done_of HT_.out (by kernel_rfl)) ?_
     try go_wp2
     go_roundg k2
     case measure => have := HK1.out; have := HK2.out; omega
     case rel => exact ⟨(y530), (wrap64 (x54_2 + 1)), (by first | rfl | (simp; done) | (simp [*]; done)), H', ⟨by have := HK1.out; have := HK2.out; omega⟩, ⟨xR HO532.out⟩, ⟨xB HB.out⟩⟩
/-! ### spec_weIf: function 278 -/
def spec_weIf.f (k : Nat) (l0 : List Int) : Option (List Int × Bool) := (spec_weGood.f k l0).bind fun t537 => (if t537 = true then (some (l0, true)) else (some (([] : List Int), false)))
theorem spec_weIf.mono : ∀ a0 k, LeO (spec_weIf.f k a0) (spec_weIf.f (k + 1) a0) := by
 intro a0 k
 have m0 := @spec_weGood.mono
 unfold spec_weIf.f
 exact xM
set_option maxHeartbeats 8000000 in
set_option maxRecDepth 100000 in
theorem spec_weIf.calls (k : Nat) (P0_ : Nat → Prop) (u9000_ : Value) (l0 : List Int) (r1 : List Int) (r2 : Bool) (w0 w : World) (hB : Below w0.heap.size w0 w) (ho0 : Kd.R (Kd.int .i64) 3 w w0.heap.size P0_ u9000_ l0) (h : spec_weIf.f k l0 = some (r1, r2)) :
  Calls Try.prog 278 #[u9000_] w fun e w' => ∃ v0_ : Value, e = .returned (.tuple #[v0_, .bool r2]) ∧ Kd.R (Kd.int .i64) 3 w' w0.heap.size (fun k_ => (P0_ k_ ∨ w.heap.size ≤ k_)) v0_ r1 ∧ Below w0.heap.size w0 w' ∧ Kept w w' (fun k_ => P0_ k_) := by
 have HO0 := Aside0.mk (show Kd.R (Kd.int .i64) 3 w w0.heap.size (fun k_ => (P0_ k_ ∨ w.heap.size ≤ k_)) u9000_ l0 from Kd.R_mono ho0 (fun k_ hk => (.inl hk)))
 have HK := Aside0.mk (Kept.refl w (fun k_ => P0_ k_))
 have HW0 := Aside0.mk hB.size
 have HB := Aside0.mk hB
 clear hB
 have H : ((spec_weGood.f k l0).bind fun t537 => (if t537 = true then (some (l0, true)) else (some (([] : List Int), false)))) = some (r1, r2) := h
 clear h
 obtain ⟨t537, A2, H⟩ := xO H
 (try dsimp only at H)
 by_cases c3 : t537 = true
 ·subst c3
  rw [if_pos rfl] at H
  simp only [Option.some.injEq, Prod.mk.injEq] at H
  obtain ⟨rfl, rfl⟩ := H
  obtain ⟨Ao4, co4, eo4⟩ := Kd.R_slice HO0.out
  subst eo4
  go_enter Try.func278, Try.ntmps278
  go_wp2_with (first | (refine xG (some 5) Try.func266 #[.slice Ao4 l0.length co4] ?_; (with_reducible refine (spec_weGood.calls k _ _ l0 true _ ?side1 ?side2 A2.out).mono ?_); (case side1 => exact xC ((Kd.R_reads' HO0.out).2.2)); (case side2 => exact (Kd.R_reads' HO0.out).2.1); rintro e w' ⟨rfl, ⟨nd, rfl⟩⟩; refine ⟨_, rfl, ?_⟩))
  go_ret2
  exact ⟨_, by first | rfl | (simp [errW_none, errW_some] <;> rfl) | (simp [*, errW_none, errW_some] <;> rfl), xR HO0.out, xB HB.out, by repeat (first | (with_reducible first | exact HK.out | apply Kept.alloc | apply Kept.drewN | apply Kept.drew) | exact HK.out)⟩
 replace c3 := Bool.eq_false_iff.mpr c3
 subst c3
 rw [if_neg (show ¬ (false = true) by decide)] at H
 simp only [Option.some.injEq, Prod.mk.injEq] at H
 obtain ⟨rfl, rfl⟩ := H
 obtain ⟨Ao5, co5, eo5⟩ := Kd.R_slice HO0.out
 subst eo5
 go_enter Try.func278, Try.ntmps278
 go_wp2_with (first | (refine xG (some 5) Try.func266 #[.slice Ao5 l0.length co5] ?_; (with_reducible refine (spec_weGood.calls k _ _ l0 false _ ?side1 ?side2 A2.out).mono ?_); (case side1 => exact xC ((Kd.R_reads' HO0.out).2.2)); (case side2 => exact (Kd.R_reads' HO0.out).2.1); rintro e w' ⟨rfl, ⟨nd, rfl⟩⟩; refine ⟨_, rfl, ?_⟩))
 go_ret2
 exact ⟨_, by first | rfl | (simp [errW_none, errW_some] <;> rfl) | (simp [*, errW_none, errW_some] <;> rfl), by first | exact Kd.R_nil _ _ _ _ _ | exact Kd.N_nil _ _ _ _ _ | exact Kd.V_nil _ _ _ _ _ | exact Kd.Q_nil _ _ _ _ _ | exact Kd.S_nil _ _ _ _ _, xB HB.out, by repeat (first | (with_reducible first | exact HK.out | apply Kept.alloc | apply Kept.drewN | apply Kept.drew) | exact HK.out)⟩

end Go.Proofs.Ytjplcongellcmaa.PFnPhasesWork
