/- What each Go function that the statement FnFirstCycles reaches answers, proved call by call. No condition beyond those that the theorems print. (Written by wip/tools/xprint.py of this repo, over the kit's print.) -/
import Derived.Test.YtjplcongellcmaaPFnFirstCyclesx0
import Derived.Test.YtjplcongellcmaaPFnFirstCyclesx5
namespace Go.Proofs.Ytjplcongellcmaa.PFnFirstCycles
open Go.RowKit Go.Proofs.YtjplcongellcmaaW.PrintWords Go.Proofs.YtjplcongellcmaaW.PrintLast Go.Proofs.YtjplcongellcmaaW.PrintMore
attribute [local go_sem] max2_int min2_int max_two min_two max_three min_three max_four min_four   -- for this text's walks alone
set_option linter.unusedVariables false
set_option linter.unusedSimpArgs false
def x6a0 : Array Bool := #[Zz,Zz,Zz,Zz,Zz,Zz,Zz,Zz]
def x6a1 : Array Bool := #[Yy,Zz,Zz,Zz,Zz,Zz,Zz,Zz]
def x6a2 : Array Bool := #[Yy,Zz,Zz,Yy,Zz,Zz,Zz,Zz]
def x6a3 : Array Bool := #[Yy,Zz,Zz,Yy,Yy,Zz,Zz,Zz]
def x6a4 : Array Bool := #[Yy,Yy,Zz,Yy,Yy,Zz,Zz,Zz]
def x6a5 : Array Bool := #[Yy,Yy,Yy,Yy,Yy,Zz,Zz,Zz]
def x6a6 : Array Bool := #[Yy,Yy,Yy,Yy,Yy,Yy,Zz,Zz]
def x6a7 : Array Bool := #[Yy,Yy,Yy,Yy,Yy,Yy,Yy,Zz]
def x6a8 : Array Bool := #[Yy,Yy,Yy,Yy,Yy,Yy,Yy,Yy]

/-! ### spec_wdShift: function 257 -/
mutual
def spec_wdShift.j0 : Nat → Int → Int → Int → Int → Option (Int)
 | 0, _, _, _, _ => none
 | k + 1, x0, x2, x7, x8 => if x2 = 1 then (if (wrap64 (2 * (wrap64 (x0 - (wrap64 (x8 * x7)))))) ≥ x7 then (spec_wdShift.j1 k x0 x2 x8 (wrap64 (x0 - (wrap64 (x8 * x7)))) (decide ((wrap64 (x0 - (wrap64 (x8 * x7)))) > 0))) else (spec_wdShift.j1 k x0 x2 x8 (wrap64 (x0 - (wrap64 (x8 * x7)))) false)) else (spec_wdShift.j1 k x0 x2 x8 (wrap64 (x0 - (wrap64 (x8 * x7)))) false)
def spec_wdShift.j1 : Nat → Int → Int → Int → Int → Bool → Option (Int)
 | 0, _, _, _, _, _ => none
 | k + 1, x0, x2, x8, x9, x26 => if x26 = true then (some (wrap64 (x8 + 1))) else (if x2 = 2 then (if x0 < 0 then (if x9 > 0 then (some (wrap64 (x8 + 1))) else (some x8)) else (some x8)) else (some x8))
end
def spec_wdShift.f (k : Nat) (a0 : Int) (a1 : Int) (a2 : Int) : Option (Int) := if 0 ≤ a1 then (if (shl .i64 1 a1) = 0 then (none) else (if (Int.tmod a0 (shl .i64 1 a1)) < 0 then (spec_wdShift.j0 k a0 a2 (shl .i64 1 a1) (wrap64 ((wrap64 (Int.tdiv a0 (shl .i64 1 a1))) - 1))) else (spec_wdShift.j0 k a0 a2 (shl .i64 1 a1) (wrap64 (Int.tdiv a0 (shl .i64 1 a1)))))) else (none)
theorem spec_wdShift.mono_l : ∀ k, (∀ y0 y1 y2 y3, LeO (spec_wdShift.j0 k y0 y1 y2 y3) (spec_wdShift.j0 (k + 1) y0 y1 y2 y3)) ∧ (∀ y0 y1 y2 y3 y4, LeO (spec_wdShift.j1 k y0 y1 y2 y3 y4) (spec_wdShift.j1 (k + 1) y0 y1 y2 y3 y4))
 | 0 => ⟨fun _ _ _ _ r h => by simp [spec_wdShift.j0] at h, fun _ _ _ _ _ r h => by simp [spec_wdShift.j1] at h⟩
 | k + 1 => by
  obtain ⟨ih0, ih1⟩ := spec_wdShift.mono_l k
  refine ⟨?_, ?_⟩ <;> intros
  ·unfold spec_wdShift.j0; exact xM
  ·unfold spec_wdShift.j1; exact xM
theorem spec_wdShift.mono : ∀ a0 a1 a2 k, LeO (spec_wdShift.f k a0 a1 a2) (spec_wdShift.f (k + 1) a0 a1 a2) := by
 intro a0 a1 a2 k
 obtain ⟨ih0, ih1⟩ := spec_wdShift.mono_l k
 unfold spec_wdShift.f
 exact xM
set_option maxHeartbeats 200000000 in
set_option maxRecDepth 100000 in
theorem spec_wdShift.calls (k : Nat) (a0 : Int) (a1 : Int) (a2 : Int) (r : Int) (w : World) (h : spec_wdShift.f k a0 a1 a2 = some r) :
  Calls Try.prog 257 #[.int .i64 a0, .int .i64 a1, .int .i64 a2] w fun e w' => e = .returned (.int .i64 r) ∧ Drawn0 w w' := by
 have H : (if 0 ≤ a1 then (if (shl .i64 1 a1) = 0 then (none) else (if (Int.tmod a0 (shl .i64 1 a1)) < 0 then (spec_wdShift.j0 k a0 a2 (shl .i64 1 a1) (wrap64 ((wrap64 (Int.tdiv a0 (shl .i64 1 a1))) - 1))) else (spec_wdShift.j0 k a0 a2 (shl .i64 1 a1) (wrap64 (Int.tdiv a0 (shl .i64 1 a1)))))) else (none)) = some r := h
 clear h
 by_cases c4 : 0 ≤ a1
 rotate_left
 ·rw [if_neg c4] at H
  exact absurd H (by simp)

 rw [if_pos c4] at H
 have c4b0 := eq_true c4
 have c4b1 : decide (0 ≤ a1) = true := decide_eq_true c4
 clear c4
 obtain ⟨ji5, hji5⟩ : ∃ j_ : Int, (shl .i64 1 a1) = j_ := ⟨_, rfl⟩
 (first | rw [hji5] at H | simp only [hji5] at H)
 have hji5_ : (IntKind.i64.wrap (1 * 2 ^ min a1.toNat 64)) = ji5 := hji5
 have hji5z : a1 ≤ 64 → (IntKind.i64.wrap (1 * 2 ^ a1.toNat)) = ji5 := shl_small hji5
 have hji5u : (IntKind.i64.wrap (2 ^ min a1.toNat 64)) = ji5 := by have h_ := hji5_; rw [Int.one_mul] at h_; exact h_
 have hji5v : a1 ≤ 64 → (IntKind.i64.wrap (2 ^ a1.toNat)) = ji5 := fun hle_ => by have h_ := hji5z hle_; rw [Int.one_mul] at h_; exact h_
 have hji5y : (wrap64 (1 * 2 ^ min a1.toNat 64)) = ji5 := (i64_w _).symm.trans hji5_
 have hji5x : a1 ≤ 64 → (wrap64 (1 * 2 ^ a1.toNat)) = ji5 := fun h_ => (i64_w _).symm.trans (hji5z h_)
 by_cases c6 : (ji5) = 0
 ·rw [if_pos c6] at H
  exact absurd H (by simp)
 rw [if_neg c6] at H
 have c6b0 : ((ji5) == 0) = false := beq_eq_false_iff_ne.mpr c6
 have c6b1 : ((ji5) != 0) = true := bne_iff_ne.mpr c6
 have HC7 := xA H
 clear H
 go_enter Try.func257, Try.ntmps257
 go_upto_if 18 with (fail)
 go_cut [8] from 10 to 18 (fun v8 wc => ∃ (kq : Nat) (x8_6 : Int), v8 = .int .i64 x8_6 ∧ Aside0 (spec_wdShift.j0 kq a0 a2 ji5 x8_6 = some r) ∧ Aside0 (kq ≤ k) ∧ Drawn0 w wc)
 case first => as_aux_lemma =>
  have H := HC7.out
  clear HC7
  by_cases c8 : (Int.tmod a0 (ji5)) < 0
  rotate_left
  ·rw [if_neg c8] at H
   have c8b0 : decide ((Int.tmod a0 (ji5)) < 0) = false := decide_eq_false c8
   clear c8
   (first | rw [c8b0] | (simp only [i64_w, i32_w]; rw [c8b0]) | skip)
   have H' := xA H
   clear H
   go_wp2
   go_meet
   case rel => exact ⟨_, (wrap64 (Int.tdiv a0 (ji5))), (by first | rfl | (simp; done) | (simp only [← hji5] <;> (first | rfl | simp)) | (simp [*]; done)), H', ⟨by first | omega | exact Nat.le_refl _⟩, by repeat (first | exact Drawn0.refl _ | apply Drawn0.step)⟩
  rw [if_pos c8] at H
  have c8b0 : decide ((Int.tmod a0 (ji5)) < 0) = true := decide_eq_true c8
  clear c8
  (first | rw [c8b0] | (simp only [i64_w, i32_w]; rw [c8b0]) | skip)
  have H' := xA H
  clear H
  go_wp2
  go_meet
  case rel => exact ⟨_, (wrap64 ((wrap64 (Int.tdiv a0 (ji5))) - 1)), (by first | rfl | (simp; done) | (simp only [← hji5] <;> (first | rfl | simp)) | (simp [*]; done)), H', ⟨by first | omega | exact Nat.le_refl _⟩, by repeat (first | exact Drawn0.refl _ | apply Drawn0.step)⟩
 case rest => as_aux_lemma =>
  clear HC7
  try clear c4b0
  try clear c4b1
  try clear c6
  try clear c6b0
  try clear c6b1
  obtain ⟨kq, x8_6, rfl, HA, HJ6, ⟨mc6, rfl⟩⟩ := hcut
  cases kq with
  | zero => exact absurd HA.out (by simp [spec_wdShift.j0])
  | succ kj6 =>
   have H := HA.out
   clear HA
   simp only [spec_wdShift.j0] at H
   have HC9 := xA H
   clear H
   go_upto_region 6 with (fail)
   go_cut [26] from 19 to 25 (fun v26 wc => ∃ (kq : Nat) (x26_8 : Bool), v26 = .bool x26_8 ∧ Aside0 (spec_wdShift.j1 kq a0 a2 x8_6 (wrap64 (a0 - (wrap64 (x8_6 * ji5)))) x26_8 = some r) ∧ Aside0 (kq ≤ kj6) ∧ Drawn0 w wc)
   case first => as_aux_lemma =>
    have H := HC9.out
    clear HC9
    by_cases c10 : a2 = 1
    rotate_left
    ·rw [if_neg c10] at H
     have c10b0 : (a2 == 1) = false := beq_eq_false_iff_ne.mpr c10
     have c10b1 : (a2 != 1) = true := bne_iff_ne.mpr c10
     (first | rw [c10b0] | (simp only [i64_w, i32_w]; rw [c10b0]) | skip)
     have H' := xA H
     clear H
     go_wp2
     go_meet
     case rel => exact ⟨_, (false), xs, H', ⟨by have := HJ6.out; first | omega | exact Nat.le_refl _⟩, by repeat (first | exact Drawn0.refl _ | apply Drawn0.step)⟩
    rw [if_pos c10] at H
    have c10b0 : (a2 == 1) = true := beq_iff_eq.mpr c10
    have c10b1 : (a2 != 1) = false := bne_eq_false_iff_eq.mpr c10
    clear c10
    (first | rw [c10b0] | (simp only [i64_w, i32_w]; rw [c10b0]) | skip)
    by_cases c11 : (wrap64 (2 * (wrap64 (a0 - (wrap64 (x8_6 * ji5)))))) ≥ ji5
    rotate_left
    ·rw [if_neg c11] at H
     have c11b0 : decide (ji5 ≤ (wrap64 (2 * (wrap64 (a0 - (wrap64 (x8_6 * ji5))))))) = false := decide_eq_false c11
     clear c11
     have H' := xA H
     clear H
     go_wp2
     go_meet
     case rel => exact ⟨_, (false), xs, H', ⟨by have := HJ6.out; first | omega | exact Nat.le_refl _⟩, by repeat (first | exact Drawn0.refl _ | apply Drawn0.step)⟩
    rw [if_pos c11] at H
    have c11b0 : decide (ji5 ≤ (wrap64 (2 * (wrap64 (a0 - (wrap64 (x8_6 * ji5))))))) = true := decide_eq_true c11
    clear c11
    have H' := xA H
    clear H
    go_wp2
    go_meet
    case rel => exact ⟨_, (decide ((wrap64 (a0 - (wrap64 (x8_6 * ji5)))) > 0)), (by first | rfl | (simp; done) | (simp only [← hji5] <;> (first | rfl | simp)) | (simp [*]; done)), H', ⟨by have := HJ6.out; first | omega | exact Nat.le_refl _⟩, by repeat (first | exact Drawn0.refl _ | apply Drawn0.step)⟩
   case rest => as_aux_lemma =>
    clear HC9
    obtain ⟨kq, x26_8, rfl, HA, HJ8, ⟨mc8, rfl⟩⟩ := hcut
    cases kq with
    | zero => exact absurd HA.out (by simp [spec_wdShift.j1])
    | succ kj8 =>
     have H := HA.out
     clear HA
     simp only [spec_wdShift.j1] at H
     by_cases c12 : x26_8 = true
     ·subst c12
      rw [if_pos rfl] at H
      obtain rfl := Option.some.inj H
      go_wp2
      go_ret
      exact ⟨by first | rfl | (simp; done) | (simp only [← hji5] <;> (first | rfl | simp)) | (simp [*]; done), by repeat (first | exact Drawn0.refl _ | apply Drawn0.step)⟩
     replace c12 := Bool.eq_false_iff.mpr c12
     subst c12
     rw [if_neg (show ¬ (false = true) by decide)] at H
     by_cases c13 : a2 = 2
     rotate_left
     ·rw [if_neg c13] at H
      have c13b0 : (a2 == 2) = false := beq_eq_false_iff_ne.mpr c13
      have c13b1 : (a2 != 2) = true := bne_iff_ne.mpr c13
      obtain rfl := Option.some.inj H
      go_wp2
      go_ret
      exact ⟨by first | rfl | (simp; done) | (simp only [← hji5] <;> (first | rfl | simp)) | (simp [*]; done), by repeat (first | exact Drawn0.refl _ | apply Drawn0.step)⟩
     rw [if_pos c13] at H
     have c13b0 : (a2 == 2) = true := beq_iff_eq.mpr c13
     have c13b1 : (a2 != 2) = false := bne_eq_false_iff_eq.mpr c13
     clear c13
     by_cases c14 : a0 < 0
     rotate_left
     ·rw [if_neg c14] at H
      have c14b0 : decide (a0 < 0) = false := decide_eq_false c14
      clear c14
      obtain rfl := Option.some.inj H
      go_wp2
      go_ret
      exact ⟨by first | rfl | (simp; done) | (simp only [← hji5] <;> (first | rfl | simp)) | (simp [*]; done), by repeat (first | exact Drawn0.refl _ | apply Drawn0.step)⟩
     rw [if_pos c14] at H
     have c14b0 : decide (a0 < 0) = true := decide_eq_true c14
     clear c14
     by_cases c15 : (wrap64 (a0 - (wrap64 (x8_6 * ji5)))) > 0
     rotate_left
     ·rw [if_neg c15] at H
      have c15b0 : decide (0 < (wrap64 (a0 - (wrap64 (x8_6 * ji5))))) = false := decide_eq_false c15
      clear c15
      obtain rfl := Option.some.inj H
      go_wp2
      go_ret
      exact ⟨by first | rfl | (simp; done) | (simp only [← hji5] <;> (first | rfl | simp)) | (simp [*]; done), by repeat (first | exact Drawn0.refl _ | apply Drawn0.step)⟩
     rw [if_pos c15] at H
     have c15b0 : decide (0 < (wrap64 (a0 - (wrap64 (x8_6 * ji5))))) = true := decide_eq_true c15
     clear c15
     obtain rfl := Option.some.inj H
     go_wp2
     go_ret
     exact ⟨by first | rfl | (simp; done) | (simp only [← hji5] <;> (first | rfl | simp)) | (simp [*]; done), by repeat (first | exact Drawn0.refl _ | apply Drawn0.step)⟩
/-! ### spec_foRaw: function 383 -/
def spec_foRaw.f (k : Nat) (a0_0 : Int) (a0_1 : Int) (a0_2 : Int) (a0_3 : Int) (a0_4 : Bool) (a1 : Int) (a2 : Int) : Option (Int) := (spec_wdShift.f k (wrap64 (a0_0 * a1)) a0_1 a0_2).bind fun t280 => (some (wrap64 (t280 + a2)))
theorem spec_foRaw.mono : ∀ a0 a1 a2 a3 a4 a5 a6 k, LeO (spec_foRaw.f k a0 a1 a2 a3 a4 a5 a6) (spec_foRaw.f (k + 1) a0 a1 a2 a3 a4 a5 a6) := by
 intro a0 a1 a2 a3 a4 a5 a6 k
 have m0 := @spec_wdShift.mono
 unfold spec_foRaw.f
 exact xM
set_option maxHeartbeats 200000000 in
set_option maxRecDepth 100000 in
theorem spec_foRaw.calls (k : Nat) (a0_0 : Int) (a0_1 : Int) (a0_2 : Int) (a0_3 : Int) (a0_4 : Bool) (a1 : Int) (a2 : Int) (r : Int) (w : World) (h : spec_foRaw.f k a0_0 a0_1 a0_2 a0_3 a0_4 a1 a2 = some r) :
  Calls Try.prog 383 #[.agg #[.int .i64 a0_0, .int .i64 a0_1, .int .i64 a0_2, .int .i64 a0_3, .bool a0_4], .int .i64 a1, .int .i64 a2] w fun e w' => e = .returned (.int .i64 r) ∧ Below w.heap.size w w' := by
 have hu62 := Try.underlying62
 have HB := xA (Below.refl w.heap.size w)
 have H : ((spec_wdShift.f k (wrap64 (a0_0 * a1)) a0_1 a0_2).bind fun t280 => (some (wrap64 (t280 + a2)))) = some r := h
 clear h
 obtain ⟨t280, A4, H⟩ := xO H
 (try dsimp only at H)
 obtain rfl := Option.some.inj H
 go_enter Try.func383, Try.ntmps383
 go_wp2_with (first | (refine xg 3 rfl ?_; refine xV 3 #[.int .i64 a0_0, .int .i64 a0_1, .int .i64 a0_2, .int .i64 a0_3, .bool a0_4] 62 ?_; intro gb279 hg w5 hbox hb; have BK279 := xA (hbox); have GW279 := xgw hg (below_size (xB HB.out)); have GE279 := GW279; replace HB := xA (below_step (xB HB.out) hb); clear hb hbox hg; replace hz279 := blk_cell BK279.out; replace hy279 := blk_frozen BK279.out) | (refine xG (some 15) Try.func257 #[.int .i64 (wrap64 (a0_0 * a1)), .int .i64 a0_1, .int .i64 a0_2] ?_; (with_reducible refine (spec_wdShift.calls k (wrap64 (a0_0 * a1)) a0_1 a0_2 t280 _ A4.out).mono ?_); rintro e w' ⟨rfl, ⟨nd, rfl⟩⟩; refine ⟨_, rfl, ?_⟩))
 go_ret
 exact ⟨xr, xB1 GE279.out HB.out⟩

/-! ### spec_foStep: function 302 -/
def spec_foStep.f (k : Nat) (a0_0 : Int) (a0_1 : Int) (a0_2 : Int) (a0_3 : Int) (a0_4 : Bool) (a1 : Int) (a2 : Int) : Option (Int) := (spec_foRaw.f k a0_0 a0_1 a0_2 a0_3 a0_4 a1 a2).bind fun t282 => ((spec_wdFit.f a0_3 a0_4 t282).bind fun t283 => (some t283))
theorem spec_foStep.mono : ∀ a0 a1 a2 a3 a4 a5 a6 k, LeO (spec_foStep.f k a0 a1 a2 a3 a4 a5 a6) (spec_foStep.f (k + 1) a0 a1 a2 a3 a4 a5 a6) := by
 intro a0 a1 a2 a3 a4 a5 a6 k
 have m0 := @spec_foRaw.mono
 unfold spec_foStep.f
 exact xM
def spec_foStep.T1 : Bool × List (List Nat × List Nat) := (true, [([], []), ([0], [0]), ([], []), ([], []), ([], []), ([2, 3, 4], [2, 3, 4]), ([1, 5, 5], [1, 5]), ([6, 6, 0, 1, 2, 3, 4, 5, 6], [6])])
def spec_foStep.B1 : List Nat := [0, 1, 0, 0, 0, 28, 63, 127]
theorem spec_foStep.tab1 : rtab .any (opsOf Try.f302 1) = spec_foStep.T1 := by kernel_rfl
theorem spec_foStep.bits1 : waitsOk spec_foStep.T1.2 spec_foStep.B1 = true := by kernel_rfl
set_option maxHeartbeats 200000000 in
set_option maxRecDepth 100000 in
theorem spec_foStep.calls (k : Nat) (a0_0 : Int) (a0_1 : Int) (a0_2 : Int) (a0_3 : Int) (a0_4 : Bool) (a1 : Int) (a2 : Int) (r : Int) (w : World) (h : spec_foStep.f k a0_0 a0_1 a0_2 a0_3 a0_4 a1 a2 = some r) :
  Calls Try.prog 302 #[.agg #[.int .i64 a0_0, .int .i64 a0_1, .int .i64 a0_2, .int .i64 a0_3, .bool a0_4], .int .i64 a1, .int .i64 a2] w fun e w' => e = .returned (.int .i64 r) ∧ Below w.heap.size w w' := by
 have hu62 := Try.underlying62
 have hu46 := Try.underlying46
 have HB := xA (Below.refl w.heap.size w)
 have H : ((spec_foRaw.f k a0_0 a0_1 a0_2 a0_3 a0_4 a1 a2).bind fun t282 => ((spec_wdFit.f a0_3 a0_4 t282).bind fun t283 => (some t283))) = some r := h
 clear h
 obtain ⟨t282, A4, H⟩ := xO H
 (try dsimp only at H)
 obtain ⟨t283, A5, H⟩ := xO H
 (try dsimp only at H)
 obtain rfl := Option.some.inj H
 go_enter Try.func302, Try.ntmps302
 try go_wp2_with (first | (refine xg 3 rfl ?_; refine xV 3 #[.int .i64 a0_0, .int .i64 a0_1, .int .i64 a0_2, .int .i64 a0_3, .bool a0_4] 62 ?_; intro gb281 hg w6 hbox hb; have BK281 := xA (hbox); have GW281 := xgw hg (below_size (xB HB.out)); have GE281 := GW281; replace HB := xA (below_step (xB HB.out) hb); clear hb hbox hg))
 replace BK281 := xA (blk_drew BK281.out)
 replace HB := xA (below_drew1 HB.out)
 refine start_ (n := 8) (S := fun w' => w'.cell? ⟨gb281, 0, none⟩ = some (.int .i64 a0_0) ∧ w'.cell? ⟨gb281, 1, none⟩ = some (.int .i64 a0_1) ∧ w'.cell? ⟨gb281, 2, none⟩ = some (.int .i64 a0_2) ∧ w'.cell? ⟨gb281, 3, none⟩ = some (.int .i64 a0_3) ∧ w'.cell? ⟨gb281, 4, none⟩ = some (.bool a0_4)) (ds := []) x6a0 (by kernel_rfl) rfl rfl ⟨(blk_cell BK281.out 0).trans rfl, (blk_cell BK281.out 1).trans rfl, (blk_cell BK281.out 2).trans rfl, (blk_cell BK281.out 3).trans rfl, (blk_cell BK281.out 4).trans rfl⟩ (fun hHeld => ?_); refine with_tabW spec_foStep.tab1 spec_foStep.bits1 (fun HT_ HW_ => ?_)
 generalize w6.drew = w7 at BK281 HB hHeld ⊢
 refine xP 0 7 x6a1 ?_
 refine xP 3 10 x6a2 ?_
 refine xP 4 11 x6a3 ?_
 refine xT5 hHeld 1 8 x6a4 ?_
 refine xT5 hHeld 2 9 x6a5 ?_
 refine xU 5 12 x6a6 (fun K hK => ?_)
 refine xY Try.func383 #[.agg #[.int .i64 a0_0, .int .i64 a0_1, .int .i64 a0_2, .int .i64 a0_3, .bool a0_4], .int .i64 a1, .int .i64 a2] ?_
 with_reducible refine (spec_foRaw.calls k a0_0 a0_1 a0_2 a0_3 a0_4 a1 a2 t282 _ A4.out).mono ?_
 rintro e w8 ⟨rfl, hb⟩
 refine ⟨_, rfl, ?_⟩
 replace BK281 := xkb BK281 hb
 replace HB := xA (below_step (xB1 GE281.out HB.out) hb)
 (try clear hb); (try clear hb2); (try clear hk); (try clear hi)
 refine hK.out _ _ ⟨(blk_cell BK281.out 0).trans rfl, (blk_cell BK281.out 1).trans rfl, (blk_cell BK281.out 2).trans rfl, (blk_cell BK281.out 3).trans rfl, (blk_cell BK281.out 4).trans rfl⟩ (fun hHeld => ?_)
 clear hK K
 refine xN ?_
 refine xU 6 13 x6a7 (fun K hK => ?_)
 refine xY Try.func256 #[.agg #[.int .i64 a0_3, .bool a0_4], .int .i64 t282] ?_
 with_reducible refine (spec_wdFit.calls a0_3 a0_4 t282 t283 _ A5.out).mono ?_
 rintro e w9 ⟨rfl, hb⟩
 refine ⟨_, rfl, ?_⟩
 replace BK281 := xkb BK281 hb
 replace HB := xA (below_step (xB1 GE281.out HB.out) hb)
 (try clear hb); (try clear hb2); (try clear hk); (try clear hi)
 refine hK.out _ _ ⟨(blk_cell BK281.out 0).trans rfl, (blk_cell BK281.out 1).trans rfl, (blk_cell BK281.out 2).trans rfl, (blk_cell BK281.out 3).trans rfl, (blk_cell BK281.out 4).trans rfl⟩ (fun hHeld => ?_)
 clear hK K
 refine xN ?_
 refine xP 7 6 x6a8 ?_
 refine xDn ?_
 try go_wp2
 go_ret
 exact ⟨xr, xB1 GE281.out HB.out⟩

end Go.Proofs.Ytjplcongellcmaa.PFnFirstCycles
