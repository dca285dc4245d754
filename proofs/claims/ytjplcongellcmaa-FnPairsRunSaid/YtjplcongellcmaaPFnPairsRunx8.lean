/- What each Go function that the statement FnPairsRun reaches answers, proved call by call. No condition beyond those that the theorems print. (Written by wip/tools/xprint.py of this repo, over the kit's print.) -/
import Derived.Test.YtjplcongellcmaaPFnPairsRunx0
import Derived.Test.YtjplcongellcmaaPFnPairsRunx2
import Derived.Test.YtjplcongellcmaaPFnPairsRunx3
import Derived.Test.YtjplcongellcmaaPFnPairsRunx5
import Derived.Test.YtjplcongellcmaaPFnPairsRunx7
namespace Go.Proofs.Ytjplcongellcmaa.PFnPairsRun
open Go.RowKit Go.Proofs.YtjplcongellcmaaW.PrintWords Go.Proofs.YtjplcongellcmaaW.PrintLast Go.Proofs.YtjplcongellcmaaW.PrintMore
attribute [local go_sem] max2_int min2_int max_two min_two max_three min_three max_four min_four   -- for this text's walks alone
set_option linter.unusedVariables false
set_option linter.unusedSimpArgs false

/-! ### spec_wdShift: function 257 -/
mutual
def spec_wdShift.j0 : Nat → Int → Int → Int → Int → Option (Int)
 | 0, _, _, _, _ => none
 | k + 1, x0, x2, x7, x8 => if x2 = 1 then (if (wrap64 (2 * (wrap64 (x0 - (wrap64 (x8 * x7)))))) ≥ x7 then (spec_wdShift.j1 k x0 x2 x8 (wrap64 (x0 - (wrap64 (x8 * x7)))) (decide ((wrap64 (x0 - (wrap64 (x8 * x7)))) > 0))) else (spec_wdShift.j1 k x0 x2 x8 (wrap64 (x0 - (wrap64 (x8 * x7)))) false)) else (spec_wdShift.j1 k x0 x2 x8 (wrap64 (x0 - (wrap64 (x8 * x7)))) false)
def spec_wdShift.j1 : Nat → Int → Int → Int → Int → Bool → Option (Int)
 | 0, _, _, _, _, _ => none
 | k + 1, x0, x2, x8, x9, x26 => if x26 = true then (some (wrap64 (x8 + 1))) else (if x2 = 2 then (if x0 < 0 then (if x9 > 0 then (some (wrap64 (x8 + 1))) else (some x8)) else (some x8)) else (some x8))
end
def spec_wdShift.f (k : Nat) (a0 : Int) (a1 : Int) (a2 : Int) : Option (Int) := if 0 ≤ a1 then (if (shl .i64 1 a1) = 0 then (none) else (if (Int.tmod a0 (shl .i64 1 a1)) < 0 then (spec_wdShift.j0 k a0 a2 (shl .i64 1 a1) (wrap64 ((wrap64 (Int.tdiv a0 (shl .i64 1 a1))) - 1))) else (spec_wdShift.j0 k a0 a2 (shl .i64 1 a1) (wrap64 (Int.tdiv a0 (shl .i64 1 a1)))))) else (none)
theorem spec_wdShift.mono_l : ∀ k, (∀ y0 y1 y2 y3, LeO (spec_wdShift.j0 k y0 y1 y2 y3) (spec_wdShift.j0 (k + 1) y0 y1 y2 y3)) ∧ (∀ y0 y1 y2 y3 y4, LeO (spec_wdShift.j1 k y0 y1 y2 y3 y4) (spec_wdShift.j1 (k + 1) y0 y1 y2 y3 y4))
 | 0 => ⟨fun _ _ _ _ r h => by simp [spec_wdShift.j0] at h, fun _ _ _ _ _ r h => by simp [spec_wdShift.j1] at h⟩
 | k + 1 => by
  obtain ⟨ih0, ih1⟩ := spec_wdShift.mono_l k
  refine ⟨?_, ?_⟩ <;> intros
  ·unfold spec_wdShift.j0; exact xM
  ·unfold spec_wdShift.j1; exact xM
theorem spec_wdShift.mono : ∀ a0 a1 a2 k, LeO (spec_wdShift.f k a0 a1 a2) (spec_wdShift.f (k + 1) a0 a1 a2) := by
 intro a0 a1 a2 k
 obtain ⟨ih0, ih1⟩ := spec_wdShift.mono_l k
 unfold spec_wdShift.f
 exact xM
set_option maxHeartbeats 200000000 in
set_option maxRecDepth 100000 in
theorem spec_wdShift.calls (k : Nat) (a0 : Int) (a1 : Int) (a2 : Int) (r : Int) (w : World) (h : spec_wdShift.f k a0 a1 a2 = some r) :
  Calls Try.prog 257 #[.int .i64 a0, .int .i64 a1, .int .i64 a2] w fun e w' => e = .returned (.int .i64 r) ∧ Drawn0 w w' := by
 have H : (if 0 ≤ a1 then (if (shl .i64 1 a1) = 0 then (none) else (if (Int.tmod a0 (shl .i64 1 a1)) < 0 then (spec_wdShift.j0 k a0 a2 (shl .i64 1 a1) (wrap64 ((wrap64 (Int.tdiv a0 (shl .i64 1 a1))) - 1))) else (spec_wdShift.j0 k a0 a2 (shl .i64 1 a1) (wrap64 (Int.tdiv a0 (shl .i64 1 a1)))))) else (none)) = some r := h
 clear h
 by_cases c4 : 0 ≤ a1
 rotate_left
 ·rw [if_neg c4] at H
  exact absurd H (by simp)

 rw [if_pos c4] at H
 have c4b0 := eq_true c4
 have c4b1 : decide (0 ≤ a1) = true := decide_eq_true c4
 clear c4
 obtain ⟨ji5, hji5⟩ : ∃ j_ : Int, (shl .i64 1 a1) = j_ := ⟨_, rfl⟩
 (first | rw [hji5] at H | simp only [hji5] at H)
 have hji5_ : (IntKind.i64.wrap (1 * 2 ^ min a1.toNat 64)) = ji5 := hji5
 have hji5z : a1 ≤ 64 → (IntKind.i64.wrap (1 * 2 ^ a1.toNat)) = ji5 := shl_small hji5
 have hji5u : (IntKind.i64.wrap (2 ^ min a1.toNat 64)) = ji5 := by have h_ := hji5_; rw [Int.one_mul] at h_; exact h_
 have hji5v : a1 ≤ 64 → (IntKind.i64.wrap (2 ^ a1.toNat)) = ji5 := fun hle_ => by have h_ := hji5z hle_; rw [Int.one_mul] at h_; exact h_
 have hji5y : (wrap64 (1 * 2 ^ min a1.toNat 64)) = ji5 := (i64_w _).symm.trans hji5_
 have hji5x : a1 ≤ 64 → (wrap64 (1 * 2 ^ a1.toNat)) = ji5 := fun h_ => (i64_w _).symm.trans (hji5z h_)
 by_cases c6 : (ji5) = 0
 ·rw [if_pos c6] at H
  exact absurd H (by simp)
 rw [if_neg c6] at H
 have c6b0 : ((ji5) == 0) = false := beq_eq_false_iff_ne.mpr c6
 have c6b1 : ((ji5) != 0) = true := bne_iff_ne.mpr c6
 have HC7 := xA H
 clear H
 go_enter Try.func257, Try.ntmps257
 go_upto_if 18 with (fail)
 go_cut [8] from 10 to 18 (fun v8 wc => ∃ (kq : Nat) (x8_6 : Int), v8 = .int .i64 x8_6 ∧ Aside0 (spec_wdShift.j0 kq a0 a2 ji5 x8_6 = some r) ∧ Aside0 (kq ≤ k) ∧ Drawn0 w wc)
 case first => as_aux_lemma =>
  have H := HC7.out
  clear HC7
  by_cases c8 : (Int.tmod a0 (ji5)) < 0
  rotate_left
  ·rw [if_neg c8] at H
   have c8b0 : decide ((Int.tmod a0 (ji5)) < 0) = false := decide_eq_false c8
   clear c8
   (first | rw [c8b0] | (simp only [i64_w, i32_w]; rw [c8b0]) | skip)
   have H' := xA H
   clear H
   go_wp2
   go_meet
   case rel => exact ⟨_, (wrap64 (Int.tdiv a0 (ji5))), (by first | rfl | (simp; done) | (simp only [← hji5] <;> (first | rfl | simp)) | (simp [*]; done)), H', ⟨by first | omega | exact Nat.le_refl _⟩, by repeat (first | exact Drawn0.refl _ | apply Drawn0.step)⟩
  rw [if_pos c8] at H
  have c8b0 : decide ((Int.tmod a0 (ji5)) < 0) = true := decide_eq_true c8
  clear c8
  (first | rw [c8b0] | (simp only [i64_w, i32_w]; rw [c8b0]) | skip)
  have H' := xA H
  clear H
  go_wp2
  go_meet
  case rel => exact ⟨_, (wrap64 ((wrap64 (Int.tdiv a0 (ji5))) - 1)), (by first | rfl | (simp; done) | (simp only [← hji5] <;> (first | rfl | simp)) | (simp [*]; done)), H', ⟨by first | omega | exact Nat.le_refl _⟩, by repeat (first | exact Drawn0.refl _ | apply Drawn0.step)⟩
 case rest => as_aux_lemma =>
  clear HC7
  try clear c4b0
  try clear c4b1
  try clear c6
  try clear c6b0
  try clear c6b1
  obtain ⟨kq, x8_6, rfl, HA, HJ6, ⟨mc6, rfl⟩⟩ := hcut
  cases kq with
  | zero => exact absurd HA.out (by simp [spec_wdShift.j0])
  | succ kj6 =>
   have H := HA.out
   clear HA
   simp only [spec_wdShift.j0] at H
   have HC9 := xA H
   clear H
   go_upto_region 6 with (fail)
   go_cut [26] from 19 to 25 (fun v26 wc => ∃ (kq : Nat) (x26_8 : Bool), v26 = .bool x26_8 ∧ Aside0 (spec_wdShift.j1 kq a0 a2 x8_6 (wrap64 (a0 - (wrap64 (x8_6 * ji5)))) x26_8 = some r) ∧ Aside0 (kq ≤ kj6) ∧ Drawn0 w wc)
   case first => as_aux_lemma =>
    have H := HC9.out
    clear HC9
    by_cases c10 : a2 = 1
    rotate_left
    ·rw [if_neg c10] at H
     have c10b0 : (a2 == 1) = false := beq_eq_false_iff_ne.mpr c10
     have c10b1 : (a2 != 1) = true := bne_iff_ne.mpr c10
     (first | rw [c10b0] | (simp only [i64_w, i32_w]; rw [c10b0]) | skip)
     have H' := xA H
     clear H
     go_wp2
     go_meet
     case rel => exact ⟨_, (false), xs, H', ⟨by have := HJ6.out; first | omega | exact Nat.le_refl _⟩, by repeat (first | exact Drawn0.refl _ | apply Drawn0.step)⟩
    rw [if_pos c10] at H
    have c10b0 : (a2 == 1) = true := beq_iff_eq.mpr c10
    have c10b1 : (a2 != 1) = false := bne_eq_false_iff_eq.mpr c10
    clear c10
    (first | rw [c10b0] | (simp only [i64_w, i32_w]; rw [c10b0]) | skip)
    by_cases c11 : (wrap64 (2 * (wrap64 (a0 - (wrap64 (x8_6 * ji5)))))) ≥ ji5
    rotate_left
    ·rw [if_neg c11] at H
     have c11b0 : decide (ji5 ≤ (wrap64 (2 * (wrap64 (a0 - (wrap64 (x8_6 * ji5))))))) = false := decide_eq_false c11
     clear c11
     have H' := xA H
     clear H
     go_wp2
     go_meet
     case rel => exact ⟨_, (false), xs, H', ⟨by have := HJ6.out; first | omega | exact Nat.le_refl _⟩, by repeat (first | exact Drawn0.refl _ | apply Drawn0.step)⟩
    rw [if_pos c11] at H
    have c11b0 : decide (ji5 ≤ (wrap64 (2 * (wrap64 (a0 - (wrap64 (x8_6 * ji5))))))) = true := decide_eq_true c11
    clear c11
    have H' := xA H
    clear H
    go_wp2
    go_meet
    case rel => exact ⟨_, (decide ((wrap64 (a0 - (wrap64 (x8_6 * ji5)))) > 0)), (by first | rfl | (simp; done) | (simp only [← hji5] <;> (first | rfl | simp)) | (simp [*]; done)), H', ⟨by have := HJ6.out; first | omega | exact Nat.le_refl _⟩, by repeat (first | exact Drawn0.refl _ | apply Drawn0.step)⟩
   case rest => as_aux_lemma =>
    clear HC9
    obtain ⟨kq, x26_8, rfl, HA, HJ8, ⟨mc8, rfl⟩⟩ := hcut
    cases kq with
    | zero => exact absurd HA.out (by simp [spec_wdShift.j1])
    | succ kj8 =>
     have H := HA.out
     clear HA
     simp only [spec_wdShift.j1] at H
     by_cases c12 : x26_8 = true
     ·subst c12
      rw [if_pos rfl] at H
      obtain rfl := Option.some.inj H
      go_wp2
      go_ret
      exact ⟨by first | rfl | (simp; done) | (simp only [← hji5] <;> (first | rfl | simp)) | (simp [*]; done), by repeat (first | exact Drawn0.refl _ | apply Drawn0.step)⟩
     replace c12 := Bool.eq_false_iff.mpr c12
     subst c12
     rw [if_neg (show ¬ (false = true) by decide)] at H
     by_cases c13 : a2 = 2
     rotate_left
     ·rw [if_neg c13] at H
      have c13b0 : (a2 == 2) = false := beq_eq_false_iff_ne.mpr c13
      have c13b1 : (a2 != 2) = true := bne_iff_ne.mpr c13
      obtain rfl := Option.some.inj H
      go_wp2
      go_ret
      exact ⟨by first | rfl | (simp; done) | (simp only [← hji5] <;> (first | rfl | simp)) | (simp [*]; done), by repeat (first | exact Drawn0.refl _ | apply Drawn0.step)⟩
     rw [if_pos c13] at H
     have c13b0 : (a2 == 2) = true := beq_iff_eq.mpr c13
     have c13b1 : (a2 != 2) = false := bne_eq_false_iff_eq.mpr c13
     clear c13
     by_cases c14 : a0 < 0
     rotate_left
     ·rw [if_neg c14] at H
      have c14b0 : decide (a0 < 0) = false := decide_eq_false c14
      clear c14
      obtain rfl := Option.some.inj H
      go_wp2
      go_ret
      exact ⟨by first | rfl | (simp; done) | (simp only [← hji5] <;> (first | rfl | simp)) | (simp [*]; done), by repeat (first | exact Drawn0.refl _ | apply Drawn0.step)⟩
     rw [if_pos c14] at H
     have c14b0 : decide (a0 < 0) = true := decide_eq_true c14
     clear c14
     by_cases c15 : (wrap64 (a0 - (wrap64 (x8_6 * ji5)))) > 0
     rotate_left
     ·rw [if_neg c15] at H
      have c15b0 : decide (0 < (wrap64 (a0 - (wrap64 (x8_6 * ji5))))) = false := decide_eq_false c15
      clear c15
      obtain rfl := Option.some.inj H
      go_wp2
      go_ret
      exact ⟨by first | rfl | (simp; done) | (simp only [← hji5] <;> (first | rfl | simp)) | (simp [*]; done), by repeat (first | exact Drawn0.refl _ | apply Drawn0.step)⟩
     rw [if_pos c15] at H
     have c15b0 : decide (0 < (wrap64 (a0 - (wrap64 (x8_6 * ji5))))) = true := decide_eq_true c15
     clear c15
     obtain rfl := Option.some.inj H
     go_wp2
     go_ret
     exact ⟨by first | rfl | (simp; done) | (simp only [← hji5] <;> (first | rfl | simp)) | (simp [*]; done), by repeat (first | exact Drawn0.refl _ | apply Drawn0.step)⟩
/-! ### spec_sdRaw: function 394 -/
def spec_sdRaw.f (k : Nat) (a0_0 : Int) (a0_1 : Int) (a0_2 : Int) (a0_3 : Int) (a0_4 : Int) (a0_5 : Bool) (a1 : Int) (a2 : Int) (a3 : Int) : Option (Int) := (spec_wdShift.f k (wrap64 ((wrap64 (a0_0 * a1)) + (wrap64 (a0_1 * a2)))) a0_2 a0_3).bind fun t364 => (some (wrap64 (t364 + a3)))
theorem spec_sdRaw.mono : ∀ a0 a1 a2 a3 a4 a5 a6 a7 a8 k, LeO (spec_sdRaw.f k a0 a1 a2 a3 a4 a5 a6 a7 a8) (spec_sdRaw.f (k + 1) a0 a1 a2 a3 a4 a5 a6 a7 a8) := by
 intro a0 a1 a2 a3 a4 a5 a6 a7 a8 k
 have m0 := @spec_wdShift.mono
 unfold spec_sdRaw.f
 exact xM
set_option maxHeartbeats 200000000 in
set_option maxRecDepth 100000 in
theorem spec_sdRaw.calls (k : Nat) (a0_0 : Int) (a0_1 : Int) (a0_2 : Int) (a0_3 : Int) (a0_4 : Int) (a0_5 : Bool) (a1 : Int) (a2 : Int) (a3 : Int) (r : Int) (w : World) (h : spec_sdRaw.f k a0_0 a0_1 a0_2 a0_3 a0_4 a0_5 a1 a2 a3 = some r) :
  Calls Try.prog 394 #[.agg #[.int .i64 a0_0, .int .i64 a0_1, .int .i64 a0_2, .int .i64 a0_3, .int .i64 a0_4, .bool a0_5], .int .i64 a1, .int .i64 a2, .int .i64 a3] w fun e w' => e = .returned (.int .i64 r) ∧ Below w.heap.size w w' := by
 have hu91 := Try.underlying91
 have HB := xA (Below.refl w.heap.size w)
 have H : ((spec_wdShift.f k (wrap64 ((wrap64 (a0_0 * a1)) + (wrap64 (a0_1 * a2)))) a0_2 a0_3).bind fun t364 => (some (wrap64 (t364 + a3)))) = some r := h
 clear h
 obtain ⟨t364, A5, H⟩ := xO H
 (try dsimp only at H)
 obtain rfl := Option.some.inj H
 go_enter Try.func394, Try.ntmps394
 go_wp2_with (first | (refine xg 4 rfl ?_; refine xV 4 #[.int .i64 a0_0, .int .i64 a0_1, .int .i64 a0_2, .int .i64 a0_3, .int .i64 a0_4, .bool a0_5] 91 ?_; intro gb363 hg w6 hbox hb; have BK363 := xA (hbox); have GW363 := xgw hg (below_size (xB HB.out)); have GE363 := GW363; replace HB := xA (below_step (xB HB.out) hb); clear hb hbox hg; replace hz363 := blk_cell BK363.out; replace hy363 := blk_frozen BK363.out) | (refine xG (some 22) Try.func257 #[.int .i64 (wrap64 ((wrap64 (a0_0 * a1)) + (wrap64 (a0_1 * a2)))), .int .i64 a0_2, .int .i64 a0_3] ?_; (with_reducible refine (spec_wdShift.calls k (wrap64 ((wrap64 (a0_0 * a1)) + (wrap64 (a0_1 * a2)))) a0_2 a0_3 t364 _ A5.out).mono ?_); rintro e w' ⟨rfl, ⟨nd, rfl⟩⟩; refine ⟨_, rfl, ?_⟩))
 go_ret
 exact ⟨xr, xB1 GE363.out HB.out⟩

/-! ### spec_sdRun: function 339 -/
def spec_sdRun.l0 : Nat → Int → Int → List Int → Int → List Int → Int → Int → Int → Int → Int → Int → Int → Bool → Option (List Int × Int)
 | 0, _, _, _, _, _, _, _, _, _, _, _, _, _ => none
 | k + 1, x1, x2, x10, x11, x15, x16, x17, x366000, x366001, x366002, x366003, x366004, x366005 => if x17 < x16 then (if 0 ≤ x17 then (if x17 < (x15.length : Int) then ((spec_sdRaw.f k x366000 x366001 x366002 x366003 x366004 x366005 x1 x2 (rd x15 x17)).bind fun t367 => ((spec_wdFit.f x366004 x366005 t367).bind fun t368 => (if t368 = t367 then (if x10.length < 17592186044416 then (spec_sdRun.l0 k t368 x1 (x10 ++ [t368]) x11 x15 x16 (wrap64 (x17 + 1)) x366000 x366001 x366002 x366003 x366004 x366005) else (none)) else (if x10.length < 17592186044416 then (spec_sdRun.l0 k t368 x1 (x10 ++ [t368]) (wrap64 (x11 + 1)) x15 x16 (wrap64 (x17 + 1)) x366000 x366001 x366002 x366003 x366004 x366005) else (none))))) else (none)) else (none)) else (some (x10, x11))
def spec_sdRun.f (k : Nat) (a0_0 : Int) (a0_1 : Int) (a0_2 : Int) (a0_3 : Int) (a0_4 : Int) (a0_5 : Bool) (a1 : Int) (a2 : Int) (l3 : List Int) : Option (List Int × Int) := spec_sdRun.l0 k a1 a2 ([] : List Int) 0 l3 (l3.length : Int) 0 a0_0 a0_1 a0_2 a0_3 a0_4 a0_5
theorem spec_sdRun.mono_l : ∀ k, (∀ y0 y1 y2 y3 y4 y5 y6 y7 y8 y9 y10 y11 y12, LeO (spec_sdRun.l0 k y0 y1 y2 y3 y4 y5 y6 y7 y8 y9 y10 y11 y12) (spec_sdRun.l0 (k + 1) y0 y1 y2 y3 y4 y5 y6 y7 y8 y9 y10 y11 y12))
 | 0 => fun _ _ _ _ _ _ _ _ _ _ _ _ _ r h => by simp [spec_sdRun.l0] at h
 | k + 1 => by
  have ih0 := spec_sdRun.mono_l k
  have m0 := @spec_sdRaw.mono
  intros
  unfold spec_sdRun.l0
  exact xM
theorem spec_sdRun.mono : ∀ a0 a1 a2 a3 a4 a5 a6 a7 a8 k, LeO (spec_sdRun.f k a0 a1 a2 a3 a4 a5 a6 a7 a8) (spec_sdRun.f (k + 1) a0 a1 a2 a3 a4 a5 a6 a7 a8) := by
 intro a0 a1 a2 a3 a4 a5 a6 a7 a8 k
 have ih0 := spec_sdRun.mono_l k
 have m0 := @spec_sdRaw.mono
 unfold spec_sdRun.f
 exact xM
set_option maxHeartbeats 200000000 in
set_option maxRecDepth 100000 in
theorem spec_sdRun.calls (k : Nat) (a0_0 : Int) (a0_1 : Int) (a0_2 : Int) (a0_3 : Int) (a0_4 : Int) (a0_5 : Bool) (a1 : Int) (a2 : Int) (A3 : Option Addr) (c3 : Nat) (l3 : List Int) (r1 : List Int) (r2 : Int) (w : World) (hr3 : Kd.C (Kd.int .i64) w A3 l3.length l3) (hc3 : l3.length ≤ c3) (h : spec_sdRun.f k a0_0 a0_1 a0_2 a0_3 a0_4 a0_5 a1 a2 l3 = some (r1, r2)) :
  Calls Try.prog 339 #[.agg #[.int .i64 a0_0, .int .i64 a0_1, .int .i64 a0_2, .int .i64 a0_3, .int .i64 a0_4, .bool a0_5], .int .i64 a1, .int .i64 a2, .slice A3 l3.length c3] w fun e w' => ∃ v0_ : Value, e = .returned (.tuple #[v0_, .int .i64 r2]) ∧ Kd.R (Kd.int .i64) 3 w' w.heap.size (fun _ => True) v0_ r1 ∧ Below w.heap.size w w' := by
 have hu91 := Try.underlying91
 have hu46 := Try.underlying46
 have HR3 := xA hr3
 have HC3 := xA hc3
 clear hr3 hc3
 have HB := xA (Below.refl w.heap.size w)
 have H : (spec_sdRun.l0 k a1 a2 ([] : List Int) 0 l3 (l3.length : Int) 0 a0_0 a0_1 a0_2 a0_3 a0_4 a0_5) = some (r1, r2) := h
 clear h
 have H' := xA H
 clear H
 go_enter Try.func339, Try.ntmps339
 go_wp2_with (first | (refine xg 4 rfl ?_; refine xV 4 #[.int .i64 a0_0, .int .i64 a0_1, .int .i64 a0_2, .int .i64 a0_3, .int .i64 a0_4, .bool a0_5] 91 ?_; intro gb365 hg w5 hbox hb; have BK365 := xA (hbox); have GW365 := xgw hg (below_size (xB HB.out)); have GE365 := GW365; replace HB := xA (below_step (xB HB.out) hb); clear hb hbox hg))
 go_loopg [1, 2, 10, 11, 17] k (fun kq v1 v2 v10 v11 v17 w' => ∃ (x1_1 : Int) (x2_1 : Int) (x10_1 : List Int) (x11_1 : Int) (x17_1 : Int), v1 = .int .i64 x1_1 ∧ v2 = .int .i64 x2_1 ∧ v11 = .int .i64 x11_1 ∧ v17 = .int .i64 x17_1 ∧ Aside0 (spec_sdRun.l0 kq x1_1 x2_1 x10_1 x11_1 l3 (l3.length : Int) x17_1 a0_0 a0_1 a0_2 a0_3 a0_4 a0_5 = some (r1, r2)) ∧ Aside0 (kq ≤ k) ∧ Aside0 (Kd.R (Kd.int .i64) 3 w' w.heap.size (fun _ => True) v10 x10_1) ∧ Aside0 (w'.heap[gb365]? = some (.cells #[.int .i64 a0_0, .int .i64 a0_1, .int .i64 a0_2, .int .i64 a0_3, .int .i64 a0_4, .bool a0_5] 91 (0, 0))) ∧ Aside0 (Below w.heap.size w w'))
 case atStart => exact ⟨(a1), (a2), (([] : List Int)), (0), (0), xs, xs, xs, xs, H', ⟨Nat.le_refl _⟩, ⟨by first | exact Kd.R_nil _ _ _ _ _ | exact Kd.N_nil _ _ _ _ _ | exact Kd.V_nil _ _ _ _ _ | exact Kd.Q_nil _ _ _ _ _ | exact Kd.S_nil _ _ _ _ _⟩, ⟨xK BK365.out⟩, ⟨xB1 GE365.out HB.out⟩⟩
 case round =>
  clear H'
  try clear c3
  obtain ⟨x1_1, x2_1, x10_1, x11_1, x17_1, rfl, rfl, rfl, rfl, HA, HK1, HO_10, BK365, HB⟩ := hrel
  cases gk with
  | zero => exact absurd HA.out (by simp [spec_sdRun.l0])
  | succ k1 =>
   have H := HA.out
   clear HA
   simp only [spec_sdRun.l0] at H
   by_cases c6 : x17_1 < (l3.length : Int)
   rotate_left
   ·rw [if_neg c6] at H
    have c6b0 : decide (x17_1 < (l3.length : Int)) = false := decide_eq_false c6
    clear c6
    simp only [Option.some.injEq, Prod.mk.injEq] at H
    obtain ⟨rfl, rfl⟩ := H
    go_wp2
    go_ret2
    exact ⟨_, xr, xR HO_10.out, xB1 GE365.out HB.out⟩

   rw [if_pos c6] at H
   have c6b0 : decide (x17_1 < (l3.length : Int)) = true := decide_eq_true c6
   clear c6
   by_cases c7 : 0 ≤ x17_1
   rotate_left
   ·rw [if_neg c7] at H
    exact absurd H (by simp)
   rw [if_pos c7] at H
   have c7b0 : decide (0 ≤ x17_1) = true := decide_eq_true c7
   clear c7
   by_cases c8 : x17_1 < (l3.length : Int)
   rotate_left
   ·rw [if_neg c8] at H
    exact absurd H (by simp)
   rw [if_pos c8] at H
   have c8b0 : decide (x17_1 < (l3.length : Int)) = true := decide_eq_true c8
   clear c8
   obtain ⟨t367, A9, H⟩ := xO H
   (try dsimp only at H)
   obtain ⟨t368, A10, H⟩ := xO H
   (try dsimp only at H)
   by_cases c11 : t368 = t367
   rotate_left
   ·rw [if_neg c11] at H
    have c11b0 : (t368 == t367) = false := beq_eq_false_iff_ne.mpr c11
    have c11b1 : (t368 != t367) = true := bne_iff_ne.mpr c11
    by_cases c18 : x10_1.length < 17592186044416
    rotate_left
    ·rw [if_neg c18] at H
     exact absurd H (by simp)
    rw [if_pos c18] at H
    have LMc18 := xA c18
    clear c18
    obtain ⟨y372, hy372⟩ : ∃ y_ : List Int, y_ = (x10_1 ++ [t368]) := ⟨_, rfl⟩
    replace H : (spec_sdRun.l0 k1 t368 x1_1 y372 (wrap64 (x11_1 + 1)) l3 (l3.length : Int) (wrap64 (x17_1 + 1)) a0_0 a0_1 a0_2 a0_3 a0_4 a0_5) = some (r1, r2) := by first | (rw [hy372]; with_reducible exact H) | (have H2_ := (Option.bind_some _ _).symm.trans H; rw [hy372]; with_reducible exact H2_) | (have H2_ := (Option.bind_some _ _).symm.trans H; with_reducible exact H2_) | with_reducible exact H | (rw [hy372]; exact H) | exact H
    have Ny372 := xA hy372
    clear hy372
    have H' := xA H
    clear H
    have p366 : 0 ≤ (x17_1 : Int) := of_decide_eq_true (by first | (with_reducible assumption) | assumption)
    have q366 : x17_1 < (l3.length : Int) := of_decide_eq_true (by first | (with_reducible assumption) | assumption)
    obtain ⟨ad366, e366, hx366_0⟩ := Kd.at_int HR3.out x17_1 p366 q366
    cases e366
    replace hx366_0 := (HB.out.cell (World.block_lt_of_cell? w _ hx366_0)).trans hx366_0
    replace p366 := eq_true p366
    replace q366 := eq_true q366
    obtain ⟨hcz19_0, hcz19_1, hcz19_2, hcz19_3, hcz19_4, hcz19_5, hfz19_0, hfz19_1, hfz19_2, hfz19_3, hfz19_4, hfz19_5⟩ := xZ6 BK365.out
    go_wp2_with (first | (refine xq rfl ?_; first | (refine xG (some 25) Try.func394 #[.agg #[.int .i64 a0_0, .int .i64 a0_1, .int .i64 a0_2, .int .i64 a0_3, .int .i64 a0_4, .bool a0_5], .int .i64 x1_1, .int .i64 x2_1, .int .i64 (rd l3 x17_1)] ?_; (with_reducible refine (spec_sdRaw.calls k1 a0_0 a0_1 a0_2 a0_3 a0_4 a0_5 x1_1 x2_1 (rd l3 x17_1) t367 _ A9.out).mono ?_); rintro e w20 ⟨rfl, hb⟩; refine ⟨_, rfl, ?_⟩; replace HO_10 := xA (Kd.R_below (xR HO_10.out) hb); replace BK365 := xkb BK365 hb; replace HB := xA (below_step (xB1 GE365.out HB.out) hb); (try clear hb); replace hz365 := blk_cell BK365.out; replace hy365 := blk_frozen BK365.out) | (refine xG (some 30) Try.func256 #[.agg #[.int .i64 a0_4, .bool a0_5], .int .i64 t367] ?_; (with_reducible refine (spec_wdFit.calls a0_4 a0_5 t367 t368 _ A10.out).mono ?_); rintro e w22 ⟨rfl, hb⟩; refine ⟨_, rfl, ?_⟩; replace HO_10 := xA (Kd.R_below (xR HO_10.out) hb); replace BK365 := xkb BK365 hb; replace HB := xA (below_step (xB1 GE365.out HB.out) hb); (try clear hb))) | ((with_reducible refine gate_builtin (b := .append) (xs := #[.tmp 36, .tmp 38]) rfl ?_); at_builtin; refine Kd.R_append (Kd.int .i64) (w0 := w) w.heap.size rfl (.tmp 36) (.tmp 38) 24 3 (.int .i64 0) 8 rfl Try.underlying24 info3 rfl (by decide) (by omega) u10 x10_1 t368 [.int .i64 t368] (fun _ => True) (fun _ => False) rfl rfl ?aP (fun _ hk => hk.elim) ?aF ?aO ?aB ?aS ?aL ?_; (case aP => exact rfl); (case aB => exact (xB1 GE365.out HB.out)); (case aF => exact (fun _ _ => trivial)); (case aO => exact (xR HO_10.out)); (case aS => exact (below_size (xB1 GE365.out HB.out))); (case aL => have := LMc18.out; omega); intro v373 w23 ho hb hg hat; rw [← Ny372.out] at ho; replace BK365 := xA (blk_grown (xK BK365.out) hg (Kd.R_ne HO_10.out BK365.out (by decide))); replace HB := xA (hb); have HO374 := xA (ho); clear HO_10; clear ho hb hg hat))
    go_roundg k1
    case measure => have := HK1.out; omega
    case rel => exact ⟨(t368), (x1_1), (y372), (wrap64 (x11_1 + 1)), (wrap64 (x17_1 + 1)), xs, xs, xs, xs, H', ⟨by have := HK1.out; omega⟩, ⟨xR HO374.out⟩, ⟨xK BK365.out⟩, ⟨xB1 GE365.out HB.out⟩⟩
   rw [if_pos c11] at H
   have c11b0 : (t368 == t367) = true := beq_iff_eq.mpr c11
   have c11b1 : (t368 != t367) = false := bne_eq_false_iff_eq.mpr c11
   clear c11
   by_cases c12 : x10_1.length < 17592186044416
   rotate_left
   ·rw [if_neg c12] at H
    exact absurd H (by simp)
   rw [if_pos c12] at H
   have LMc12 := xA c12
   clear c12
   obtain ⟨y369, hy369⟩ : ∃ y_ : List Int, y_ = (x10_1 ++ [t368]) := ⟨_, rfl⟩
   replace H : (spec_sdRun.l0 k1 t368 x1_1 y369 x11_1 l3 (l3.length : Int) (wrap64 (x17_1 + 1)) a0_0 a0_1 a0_2 a0_3 a0_4 a0_5) = some (r1, r2) := by first | (rw [hy369]; with_reducible exact H) | (have H2_ := (Option.bind_some _ _).symm.trans H; rw [hy369]; with_reducible exact H2_) | (have H2_ := (Option.bind_some _ _).symm.trans H; with_reducible exact H2_) | with_reducible exact H | (rw [hy369]; exact H) | exact H
   have Ny369 := xA hy369
   clear hy369
   have H' := xA H
   clear H
   have p366 : 0 ≤ (x17_1 : Int) := of_decide_eq_true (by first | (with_reducible assumption) | assumption)
   have q366 : x17_1 < (l3.length : Int) := of_decide_eq_true (by first | (with_reducible assumption) | assumption)
   obtain ⟨ad366, e366, hx366_0⟩ := Kd.at_int HR3.out x17_1 p366 q366
   cases e366
   replace hx366_0 := (HB.out.cell (World.block_lt_of_cell? w _ hx366_0)).trans hx366_0
   replace p366 := eq_true p366
   replace q366 := eq_true q366
   obtain ⟨hcz13_0, hcz13_1, hcz13_2, hcz13_3, hcz13_4, hcz13_5, hfz13_0, hfz13_1, hfz13_2, hfz13_3, hfz13_4, hfz13_5⟩ := xZ6 BK365.out
   go_wp2_with (first | (refine xq rfl ?_; first | (refine xG (some 25) Try.func394 #[.agg #[.int .i64 a0_0, .int .i64 a0_1, .int .i64 a0_2, .int .i64 a0_3, .int .i64 a0_4, .bool a0_5], .int .i64 x1_1, .int .i64 x2_1, .int .i64 (rd l3 x17_1)] ?_; (with_reducible refine (spec_sdRaw.calls k1 a0_0 a0_1 a0_2 a0_3 a0_4 a0_5 x1_1 x2_1 (rd l3 x17_1) t367 _ A9.out).mono ?_); rintro e w14 ⟨rfl, hb⟩; refine ⟨_, rfl, ?_⟩; replace HO_10 := xA (Kd.R_below (xR HO_10.out) hb); replace BK365 := xkb BK365 hb; replace HB := xA (below_step (xB1 GE365.out HB.out) hb); (try clear hb); replace hz365 := blk_cell BK365.out; replace hy365 := blk_frozen BK365.out) | (refine xG (some 30) Try.func256 #[.agg #[.int .i64 a0_4, .bool a0_5], .int .i64 t367] ?_; (with_reducible refine (spec_wdFit.calls a0_4 a0_5 t367 t368 _ A10.out).mono ?_); rintro e w16 ⟨rfl, hb⟩; refine ⟨_, rfl, ?_⟩; replace HO_10 := xA (Kd.R_below (xR HO_10.out) hb); replace BK365 := xkb BK365 hb; replace HB := xA (below_step (xB1 GE365.out HB.out) hb); (try clear hb))) | ((with_reducible refine gate_builtin (b := .append) (xs := #[.tmp 36, .tmp 38]) rfl ?_); at_builtin; refine Kd.R_append (Kd.int .i64) (w0 := w) w.heap.size rfl (.tmp 36) (.tmp 38) 24 3 (.int .i64 0) 8 rfl Try.underlying24 info3 rfl (by decide) (by omega) u10 x10_1 t368 [.int .i64 t368] (fun _ => True) (fun _ => False) rfl rfl ?aP (fun _ hk => hk.elim) ?aF ?aO ?aB ?aS ?aL ?_; (case aP => exact rfl); (case aB => exact (xB1 GE365.out HB.out)); (case aF => exact (fun _ _ => trivial)); (case aO => exact (xR HO_10.out)); (case aS => exact (below_size (xB1 GE365.out HB.out))); (case aL => have := LMc12.out; omega); intro v370 w17 ho hb hg hat; rw [← Ny369.out] at ho; replace BK365 := xA (blk_grown (xK BK365.out) hg (Kd.R_ne HO_10.out BK365.out (by decide))); replace HB := xA (hb); have HO371 := xA (ho); clear HO_10; clear ho hb hg hat))
   go_roundg k1
   case measure => have := HK1.out; omega
   case rel => exact ⟨(t368), (x1_1), (y369), (x11_1), (wrap64 (x17_1 + 1)), xs, xs, xs, xs, H', ⟨by have := HK1.out; omega⟩, ⟨xR HO371.out⟩, ⟨xK BK365.out⟩, ⟨xB1 GE365.out HB.out⟩⟩
/-! ### spec_RunSecond: function 139 -/
def spec_RunSecond.f (k : Nat) (a0_0 : Int) (a0_1 : Int) (a0_2 : Int) (a0_3 : Int) (a0_4 : Int) (a0_5 : Bool) (a1 : Int) (a2 : Int) (l3 : List Int) : Option (List Int × Bool) := (spec_sdAsked.f a0_0 a0_1 a0_2 a0_3 a0_4 a0_5 a1 a2 0).bind fun t376 => (if t376 = true then ((spec_wdSignal.f k l3).bind fun t377 => (if t377 = true then ((spec_sdRun.f k a0_0 a0_1 a0_2 a0_3 a0_4 a0_5 a1 a2 l3).bind fun bt378 => (some (bt378.1, true))) else (some (([] : List Int), false)))) else (some (([] : List Int), false)))
theorem spec_RunSecond.mono : ∀ a0 a1 a2 a3 a4 a5 a6 a7 a8 k, LeO (spec_RunSecond.f k a0 a1 a2 a3 a4 a5 a6 a7 a8) (spec_RunSecond.f (k + 1) a0 a1 a2 a3 a4 a5 a6 a7 a8) := by
 intro a0 a1 a2 a3 a4 a5 a6 a7 a8 k
 have m0 := @spec_sdRun.mono
 have m1 := @spec_wdSignal.mono
 unfold spec_RunSecond.f
 exact xM
set_option maxHeartbeats 200000000 in
set_option maxRecDepth 100000 in
theorem spec_RunSecond.calls (k : Nat) (a0_0 : Int) (a0_1 : Int) (a0_2 : Int) (a0_3 : Int) (a0_4 : Int) (a0_5 : Bool) (a1 : Int) (a2 : Int) (A3 : Option Addr) (c3 : Nat) (l3 : List Int) (r1 : List Int) (r2 : Bool) (w : World) (hr3 : Kd.C (Kd.int .i64) w A3 l3.length l3) (hc3 : l3.length ≤ c3) (h : spec_RunSecond.f k a0_0 a0_1 a0_2 a0_3 a0_4 a0_5 a1 a2 l3 = some (r1, r2)) :
  Calls Try.prog 139 #[.agg #[.int .i64 a0_0, .int .i64 a0_1, .int .i64 a0_2, .int .i64 a0_3, .int .i64 a0_4, .bool a0_5], .int .i64 a1, .int .i64 a2, .slice A3 l3.length c3] w fun e w' => ∃ v0_ : Value, e = .returned (.tuple #[v0_, .bool r2]) ∧ Kd.R (Kd.int .i64) 3 w' w.heap.size (fun _ => True) v0_ r1 ∧ Below w.heap.size w w' := by
 have hu91 := Try.underlying91
 have HR3 := xA hr3
 have HC3 := xA hc3
 clear hr3 hc3
 have HB := xA (Below.refl w.heap.size w)
 have H : ((spec_sdAsked.f a0_0 a0_1 a0_2 a0_3 a0_4 a0_5 a1 a2 0).bind fun t376 => (if t376 = true then ((spec_wdSignal.f k l3).bind fun t377 => (if t377 = true then ((spec_sdRun.f k a0_0 a0_1 a0_2 a0_3 a0_4 a0_5 a1 a2 l3).bind fun bt378 => (some (bt378.1, true))) else (some (([] : List Int), false)))) else (some (([] : List Int), false)))) = some (r1, r2) := h
 clear h
 obtain ⟨t376, A5, H⟩ := xO H
 (try dsimp only at H)
 by_cases c6 : t376 = true
 rotate_left
 ·replace c6 := Bool.eq_false_iff.mpr c6
  subst c6
  rw [if_neg (show ¬ (false = true) by decide)] at H
  simp only [Option.some.injEq, Prod.mk.injEq] at H
  obtain ⟨rfl, rfl⟩ := H
  go_enter Try.func139, Try.ntmps139
  go_wp2_with (first | (refine xg 4 rfl ?_; refine xV 4 #[.int .i64 a0_0, .int .i64 a0_1, .int .i64 a0_2, .int .i64 a0_3, .int .i64 a0_4, .bool a0_5] 91 ?_; intro gb375 hg w18 hbox hb; have BK375 := xA (hbox); have GW375 := xgw hg (below_size (xB HB.out)); have GE375 := GW375; replace HB := xA (below_step (xB HB.out) hb); clear hb hbox hg; obtain ⟨hcz19_0, hcz19_1, hcz19_2, hcz19_3, hcz19_4, hcz19_5, hfz19_0, hfz19_1, hfz19_2, hfz19_3, hfz19_4, hfz19_5⟩ := xZ6 BK375.out) | (refine xG (some 15) Try.func338 #[.agg #[.int .i64 a0_0, .int .i64 a0_1, .int .i64 a0_2, .int .i64 a0_3, .int .i64 a0_4, .bool a0_5], .int .i64 a1, .int .i64 a2, .int .i64 0] ?_; (with_reducible refine (spec_sdAsked.calls a0_0 a0_1 a0_2 a0_3 a0_4 a0_5 a1 a2 0 false _ A5.out).mono ?_); rintro e w20 ⟨rfl, hb⟩; refine ⟨_, rfl, ?_⟩; replace BK375 := xkb BK375 hb; replace HB := xA (below_step (xB1 GE375.out HB.out) hb); (try clear hb)))
  go_ret2
  exact ⟨_, xr, by first | exact Kd.R_nil _ _ _ _ _ | exact Kd.N_nil _ _ _ _ _ | exact Kd.V_nil _ _ _ _ _ | exact Kd.Q_nil _ _ _ _ _ | exact Kd.S_nil _ _ _ _ _, xB1 GE375.out HB.out⟩

 subst c6
 rw [if_pos rfl] at H
 obtain ⟨t377, A7, H⟩ := xO H
 (try dsimp only at H)
 by_cases c8 : t377 = true
 rotate_left
 ·replace c8 := Bool.eq_false_iff.mpr c8
  subst c8
  rw [if_neg (show ¬ (false = true) by decide)] at H
  simp only [Option.some.injEq, Prod.mk.injEq] at H
  obtain ⟨rfl, rfl⟩ := H
  go_enter Try.func139, Try.ntmps139
  go_wp2_with (first | (refine xg 4 rfl ?_; refine xV 4 #[.int .i64 a0_0, .int .i64 a0_1, .int .i64 a0_2, .int .i64 a0_3, .int .i64 a0_4, .bool a0_5] 91 ?_; intro gb375 hg w15 hbox hb; have BK375 := xA (hbox); have GW375 := xgw hg (below_size (xB HB.out)); have GE375 := GW375; replace HB := xA (below_step (xB HB.out) hb); clear hb hbox hg; replace hz375 := blk_cell BK375.out; replace hy375 := blk_frozen BK375.out) | (refine xG (some 15) Try.func338 #[.agg #[.int .i64 a0_0, .int .i64 a0_1, .int .i64 a0_2, .int .i64 a0_3, .int .i64 a0_4, .bool a0_5], .int .i64 a1, .int .i64 a2, .int .i64 0] ?_; (with_reducible refine (spec_sdAsked.calls a0_0 a0_1 a0_2 a0_3 a0_4 a0_5 a1 a2 0 true _ A5.out).mono ?_); rintro e w17 ⟨rfl, hb⟩; refine ⟨_, rfl, ?_⟩; replace BK375 := xkb BK375 hb; replace HB := xA (below_step (xB1 GE375.out HB.out) hb); (try clear hb)) | (go_at_call 236; (with_reducible refine (spec_wdSignal.calls k _ _ l3 false _ ?side1 ?side2 A7.out).mono ?_); (case side1 => exact xC (Kd.C_below HR3.out HB.out)); (case side2 => exact HC3.out); rintro e w' ⟨rfl, ⟨nd, rfl⟩⟩))
  go_ret2
  exact ⟨_, xr, by first | exact Kd.R_nil _ _ _ _ _ | exact Kd.N_nil _ _ _ _ _ | exact Kd.V_nil _ _ _ _ _ | exact Kd.Q_nil _ _ _ _ _ | exact Kd.S_nil _ _ _ _ _, xB1 GE375.out HB.out⟩
 subst c8
 rw [if_pos rfl] at H
 replace H := Option.bind_eq_some_iff.mp H
 obtain ⟨⟨t378, t381⟩, A90, H⟩ := H
 (try dsimp only at H)
 have A9 := xA A90
 clear A90
 simp only [Option.some.injEq, Prod.mk.injEq] at H
 obtain ⟨rfl, rfl⟩ := H
 go_enter Try.func139, Try.ntmps139
 go_wp2_with (first | (refine xq rfl ?_; first | (refine xG (some 15) Try.func338 #[.agg #[.int .i64 a0_0, .int .i64 a0_1, .int .i64 a0_2, .int .i64 a0_3, .int .i64 a0_4, .bool a0_5], .int .i64 a1, .int .i64 a2, .int .i64 0] ?_; (with_reducible refine (spec_sdAsked.calls a0_0 a0_1 a0_2 a0_3 a0_4 a0_5 a1 a2 0 true _ A5.out).mono ?_); rintro e w12 ⟨rfl, hb⟩; refine ⟨_, rfl, ?_⟩; replace BK375 := xkb BK375 hb; replace HB := xA (below_step (xB1 GE375.out HB.out) hb); (try clear hb)) | (refine xG (some 27) Try.func339 #[.agg #[.int .i64 a0_0, .int .i64 a0_1, .int .i64 a0_2, .int .i64 a0_3, .int .i64 a0_4, .bool a0_5], .int .i64 a1, .int .i64 a2, .slice A3 l3.length c3] ?_; (with_reducible refine (spec_sdRun.calls k a0_0 a0_1 a0_2 a0_3 a0_4 a0_5 a1 a2 _ _ l3 t378 t381 _ ?side1 ?side2 A9.out).mono ?_); (case side1 => repeat (first | exact (Kd.C_below HR3.out (xB1 GE375.out HB.out)) | (with_reducible refine Kd.C_alloc ?_ _) | (with_reducible refine Kd.C_drewN ?_ _) | (with_reducible refine Kd.C_drew ?_))); (case side2 => exact HC3.out); rintro e w14 ⟨v379, rfl, ho0, hb⟩; refine ⟨_, rfl, ?_⟩; have HO380 := xA (Kd.R_lower ho0 (below_size (xB1 GE375.out HB.out))); replace BK375 := xkb BK375 hb; replace HB := xA (below_step (xB1 GE375.out HB.out) hb); (try clear hb); (try clear ho0))) | (refine xg 4 rfl ?_; refine xV 4 #[.int .i64 a0_0, .int .i64 a0_1, .int .i64 a0_2, .int .i64 a0_3, .int .i64 a0_4, .bool a0_5] 91 ?_; intro gb375 hg w10 hbox hb; have BK375 := xA (hbox); have GW375 := xgw hg (below_size (xB HB.out)); have GE375 := GW375; replace HB := xA (below_step (xB HB.out) hb); clear hb hbox hg; replace hz375 := blk_cell BK375.out; replace hy375 := blk_frozen BK375.out) | (go_at_call 236; (with_reducible refine (spec_wdSignal.calls k _ _ l3 true _ ?side1 ?side2 A7.out).mono ?_); (case side1 => exact xC (Kd.C_below HR3.out HB.out)); (case side2 => exact HC3.out); rintro e w' ⟨rfl, ⟨nd, rfl⟩⟩; obtain ⟨hcz13_0, hcz13_1, hcz13_2, hcz13_3, hcz13_4, hcz13_5, hfz13_0, hfz13_1, hfz13_2, hfz13_3, hfz13_4, hfz13_5⟩ := xZ6 BK375.out))
 go_ret2
 exact ⟨_, xr, xR HO380.out, xB1 GE375.out HB.out⟩
/-! ### impl_isNumber: function 262 -/
def impl_isNumber.f (a0 : Int) : Option (Bool) := (impl_in.f a0 (-1000000000000) 1000000000000).bind fun t382 => (some t382)
set_option maxHeartbeats 200000000 in
set_option maxRecDepth 100000 in
theorem impl_isNumber.calls (a0 : Int) (r : Bool) (w : World) (h : impl_isNumber.f a0 = some r) :
  Calls Try.prog 262 #[.int .i64 a0] w fun e w' => e = .returned (.bool r) ∧ Drawn0 w w' := by
 have H : ((impl_in.f a0 (-1000000000000) 1000000000000).bind fun t382 => (some t382)) = some r := h
 clear h
 obtain ⟨t382, A2, H⟩ := xO H
 (try dsimp only at H)
 obtain rfl := Option.some.inj H
 go_enter Try.func262, Try.ntmps262
 go_wp2_with (first | (refine xG (some 4) Try.func223 #[.int .i64 a0, .int .i64 (-1000000000000), .int .i64 1000000000000] ?_; (with_reducible refine (impl_in.calls a0 (-1000000000000) 1000000000000 t382 _ A2.out).mono ?_); rintro e w' ⟨rfl, ⟨nd, rfl⟩⟩; refine ⟨_, rfl, ?_⟩))
 go_ret
 exact ⟨by first | rfl | (simp; done) | (simp [*]; done), by repeat (first | exact Drawn0.refl _ | apply Drawn0.step)⟩

-- NOT PRINTED: function 287 (impl_exact)

-- NOT PRINTED: function 340 (impl_ExactSecond_c1)

-- NOT PRINTED: function 341 (impl_ExactSecond_c2)

/-- the next number ahead of the sample -/
def impl_ExactSecond_nx (b0 b1 b2 n y z : Int) : Int := if n = 0 then wrap64 ((wrap64 (b0 * y)) + (wrap64 (b1 * z))) else wrap64 ((wrap64 (b0 * y)) + (wrap64 ((shl .i64 b1 b2) * z)))
/-! ### impl_ExactSecond_c1: function 340 (a closure that holds the three boxes) -/
set_option maxHeartbeats 200000000 in
set_option maxRecDepth 100000 in
theorem impl_ExactSecond_c1.calls (a0 b0 b1 b2 b3 b4 : Int) (b5 : Bool) (y z : Int) (w : World) (q0 q1 q2 : Nat) (h0 : 0 ≤ b2) (hq0 : w.heap[q0]? = some (.cells #[.int .i64 b0, .int .i64 b1, .int .i64 b2, .int .i64 b3, .int .i64 b4, .bool b5] 91 (0, 0))) (hq1 : w.heap[q1]? = some (.cells #[.int .i64 y] 3 (0, 0))) (hq2 : w.heap[q2]? = some (.cells #[.int .i64 z] 3 (0, 0))) :
  Calls Try.prog 340 #[.int .i64 a0, .pointer (some ⟨q0, 0, none⟩), .pointer (some ⟨q1, 0, none⟩), .pointer (some ⟨q2, 0, none⟩)] w fun e w' => e = .returned (.int .i64 (impl_ExactSecond_nx b0 b1 b2 a0 y z)) ∧ Drawn0 w w' := by
 have hu91 := Try.underlying91
 have hcq0 : w.cell? ⟨q0, 0, none⟩ = some (.int .i64 b0) := (blk_cell hq0 0).trans rfl
 have hcq01 : w.cell? ⟨q0, 1, none⟩ = some (.int .i64 b1) := (blk_cell hq0 1).trans rfl
 have hcq02 : w.cell? ⟨q0, 2, none⟩ = some (.int .i64 b2) := (blk_cell hq0 2).trans rfl
 have hcq1 : w.cell? ⟨q1, 0, none⟩ = some (.int .i64 y) := (blk_cell hq1 0).trans rfl
 have hcq2 : w.cell? ⟨q2, 0, none⟩ = some (.int .i64 z) := (blk_cell hq2 0).trans rfl
 clear hq0 hq1 hq2
 by_cases c : a0 = 0
 ·have cb : (a0 == 0) = true := beq_iff_eq.mpr c
  rw [impl_ExactSecond_nx, if_pos c]
  clear c
  go_enter Try.func340, Try.ntmps340
  go_wp2
  go_ret
  exact ⟨by first | rfl | (simp; done) | (simp [*]; done), by repeat (first | exact Drawn0.refl _ | apply Drawn0.step)⟩
 have cb : (a0 == 0) = false := beq_eq_false_iff_ne.mpr c
 rw [impl_ExactSecond_nx, if_neg c]
 clear c
 obtain ⟨ji, hji⟩ : ∃ j_ : Int, (shl .i64 b1 b2) = j_ := ⟨_, rfl⟩
 rw [hji]
 have hji_ : (IntKind.i64.wrap (b1 * 2 ^ min b2.toNat 64)) = ji := hji
 have hjiz : b2 ≤ 64 → (IntKind.i64.wrap (b1 * 2 ^ b2.toNat)) = ji := shl_small hji
 have hjiy : (wrap64 (b1 * 2 ^ min b2.toNat 64)) = ji := (i64_w _).symm.trans hji_
 have hjix : b2 ≤ 64 → (wrap64 (b1 * 2 ^ b2.toNat)) = ji := fun h_ => (i64_w _).symm.trans (hjiz h_)
 have h0b := eq_true h0
 have h0c : decide (0 ≤ b2) = true := decide_eq_true h0
 clear h0
 go_enter Try.func340, Try.ntmps340
 go_wp2
 go_region
 go_wp2
 go_ret
 exact ⟨by first | rfl | (simp; done) | (simp [*]; done), by repeat (first | exact Drawn0.refl _ | apply Drawn0.step)⟩
/-! ### impl_ExactSecond_c2: function 341 (a closure that puts into the two boxes) -/
set_option maxHeartbeats 200000000 in
set_option maxRecDepth 100000 in
theorem impl_ExactSecond_c2.calls (a0 y z : Int) (w0 w : World) (q1 q2 : Nat) (hq1 : w.heap[q1]? = some (.cells #[.int .i64 y] 3 (0, 0))) (hq2 : w.heap[q2]? = some (.cells #[.int .i64 z] 3 (0, 0))) (hne : q1 ≠ q2) (hB : Below w0.heap.size w0 w) (hge1 : w0.heap.size ≤ q1) (hge2 : w0.heap.size ≤ q2) :
  Calls Try.prog 341 #[.int .i64 a0, .pointer (some ⟨q1, 0, none⟩), .pointer (some ⟨q2, 0, none⟩)] w fun e w' => e = .returned (.tuple #[]) ∧ w'.heap[q1]? = some (.cells #[.int .i64 a0] 3 (0, 0)) ∧ w'.heap[q2]? = some (.cells #[.int .i64 y] 3 (0, 0)) ∧ Below w0.heap.size w0 w' ∧ ∃ wm, KeepBut w wm q1 none ∧ KeepBut wm w' q2 none := by
 have HB := xA hB
 have HG1 := xA hge1
 have HG2 := xA hge2
 have HN := xA hne
 have BK1 := xA hq1
 have BK2 := xA hq2
 have hk2 := xA (blk_far hq2 (p := ⟨q1, 0, none⟩) (fun e => hne e.symm) (.int .i64 a0))
 have hcq1 : w.cell? ⟨q1, 0, none⟩ = some (.int .i64 y) := (blk_cell hq1 0).trans rfl
 have hfq1 := blk_frozen hq1 0
 have hcq2 : (w.setCell ⟨q1, 0, none⟩ (.int .i64 a0)).cell? ⟨q2, 0, none⟩ = some (.int .i64 z) := (blk_cell hk2.out 0).trans rfl
 have hfq2 := blk_frozen hk2.out 0
 clear hB hge1 hge2 hq1 hq2 hne
 go_enter Try.func341, Try.ntmps341
 go_wp2
 (first | go_end0 | ((try simp only [Exit.inBlock, Exit.then]); refine bodyPost_ret (results_none rfl _ _ _) rfl ?_))
 exact ⟨by first | rfl | (simp; done), blk_far (blk_put BK1.out 0 _ rfl) (p := ⟨q2, 0, none⟩) HN.out _, blk_put hk2.out 0 _ rfl, below_set (below_set HB.out HG1.out) HG2.out, _, KeepBut.set_ (KeepBut.refl w q1 none) 0 _, KeepBut.set_ (KeepBut.refl _ q2 none) 0 _⟩
/-! ### impl_ExactSecond_ex: function 287, the road through the list -/
def impl_ExactSecond_ex.l0 : Nat → Int → Int → List Int → Int → Int → List Int → Int → Int → Int → Option (List Int × Bool)
 | 0, _, _, _, _, _, _, _, _, _ => none
 | k + 1, y, z, x10, x11, x18, l0, a1, b0, b1 => if x18 < (l0.length : Int) then (if 0 ≤ x18 then (if 0 ≤ a1 then ((impl_isNumber.f (shl .i64 x11 a1)).bind fun t1 => (if t1 = true then ((impl_isNumber.f (wrap64 ((impl_ExactSecond_nx b0 b1 a1 x18 y z) + (wrap64 ((rd l0 x18) * (shl .i64 x11 a1)))))).bind fun t2 => (if t2 = true then (if x10.length < 17592186044416 then (impl_ExactSecond_ex.l0 k (wrap64 ((impl_ExactSecond_nx b0 b1 a1 x18 y z) + (wrap64 ((rd l0 x18) * (shl .i64 x11 a1))))) y (x10 ++ [(wrap64 ((impl_ExactSecond_nx b0 b1 a1 x18 y z) + (wrap64 ((rd l0 x18) * (shl .i64 x11 a1)))))]) (shl .i64 x11 a1) (wrap64 (x18 + 1)) l0 a1 b0 b1) else none) else (some (([] : List Int), false)))) else (some (([] : List Int), false)))) else none) else none) else (some (x10, true))
theorem impl_ExactSecond_ex.mono_l : ∀ k, (∀ y0 y1 y2 y3 y4 y5 y6 y7 y8, LeO (impl_ExactSecond_ex.l0 k y0 y1 y2 y3 y4 y5 y6 y7 y8) (impl_ExactSecond_ex.l0 (k + 1) y0 y1 y2 y3 y4 y5 y6 y7 y8))
 | 0 => fun _ _ _ _ _ _ _ _ _ r h => by simp [impl_ExactSecond_ex.l0] at h
 | k + 1 => by
  have ih0 := impl_ExactSecond_ex.mono_l k
  intros
  unfold impl_ExactSecond_ex.l0
  exact xM
theorem impl_ExactSecond_ex.farB {e base : Nat} {v : Value} {xs : List Int} {w w1 : World} {q1 : Nat} (h : Kd.R (Kd.int .i64) e w base (fun _ => True) v xs) (hk : KeepBut w w1 q1 none) (hq : q1 < base) : Kd.R (Kd.int .i64) e w1 base (fun _ => True) v xs :=
 Kd.R_mono (Kd.R_keep (Kd.R_mono (Kd.R_bound h) (fun k hk => (⟨trivial, hk.2.1⟩ : (fun k => True ∧ base ≤ k) k))) hk (fun k ho => by have := ho.2; omega)) (fun _ _ => trivial)
set_option maxHeartbeats 200000000 in
set_option maxRecDepth 100000 in
theorem impl_ExactSecond_ex.calls (k : Nat) (A0 : Option Addr) (c0 : Nat) (l0 : List Int) (a1 b0 b1 b3 b4 : Int) (b5 : Bool) (y z : Int) (r1 : List Int) (r2 : Bool) (w0 w : World) (q0 q1 q2 : Nat) (hq0 : w.heap[q0]? = some (.cells (#[.int .i64 b0, .int .i64 b1, .int .i64 a1, .int .i64 b3, .int .i64 b4, .bool b5]) 91 (0, 0))) (hq1 : w.heap[q1]? = some (.cells #[.int .i64 y] 3 (0, 0))) (hq2 : w.heap[q2]? = some (.cells #[.int .i64 z] 3 (0, 0))) (hr0 : Kd.C (Kd.int .i64) w0 A0 l0.length l0) (hc0 : l0.length ≤ c0) (hB : Below w0.heap.size w0 w) (hg1 : w0.heap.size ≤ q1) (hg2 : w0.heap.size ≤ q2) (hn01 : q0 ≠ q1) (hn02 : q0 ≠ q2) (hn12 : q1 ≠ q2) (h : impl_ExactSecond_ex.l0 k y z ([] : List Int) 1 0 l0 a1 b0 b1 = some (r1, r2)) :
  Calls Try.prog 287 #[.slice A0 l0.length c0, .int .i64 a1, .func (.func 340) #[] #[.pointer (some ⟨q0, 0, none⟩), .pointer (some ⟨q1, 0, none⟩), .pointer (some ⟨q2, 0, none⟩)], .func (.func 341) #[] #[.pointer (some ⟨q1, 0, none⟩), .pointer (some ⟨q2, 0, none⟩)]] w fun e w' => ∃ v0_ : Value, e = .returned (.tuple #[v0_, .bool r2]) ∧ Kd.R (Kd.int .i64) 3 w' w.heap.size (fun _ => True) v0_ r1 ∧ Below w0.heap.size w0 w' := by
 have HR0 := xA hr0
 have HC0 := xA hc0
 have HB := xA hB
 have HW := xA hB.size
 have HG1 := xA hg1
 have HG2 := xA hg2
 have HN01 := xA hn01
 have HN02 := xA hn02
 have HN12 := xA hn12
 have HQ0 := xA (blk_lt hq0)
 have HQ1 := xA (blk_lt hq1)
 have HQ2 := xA (blk_lt hq2)
 have BK0 := xA hq0
 have BK1 := xA hq1
 have BK2 := xA hq2
 have H' := xA h
 clear hr0 hc0 hB hg1 hg2 hn01 hn02 hn12 hq0 hq1 hq2 h
 go_enter Try.func287, Try.ntmps287
 go_wp2_with (first | ((with_reducible refine gate_dst (N := 15) rfl ?_); refine Kd.R_lit (Kd.int .i64) _ 3 ?hg (N := 15) ?hd (xs := ([] : List Int)) (inner := []) (ok := fun _ => True) (okp := fun _ => True) ?hr ?hp (fun _ hk => hk) trivial (Below.refl _ _) (Nat.le_refl _) (by simp) ?_; (case hd => rfl); (case hg => rfl); (case hr => first | (go_simp; done) | (go_simp; rfl)); (case hp => exact (Reps.none _ _)); intro v311 w5 ho6 hb hg_ hnew_; clear hg_ hnew_; have n0_ := xA ho6; have n1_ := xA (blk_below (by ((with_reducible repeat (first | refine blk_drewN ?_ _ | refine blk_drew ?_ | refine blk_alloc ?_ _)); exact BK0.out)) hb); have n2_ := xA (blk_below (by ((with_reducible repeat (first | refine blk_drewN ?_ _ | refine blk_drew ?_ | refine blk_alloc ?_ _)); exact BK1.out)) hb); have n3_ := xA (blk_below (by ((with_reducible repeat (first | refine blk_drewN ?_ _ | refine blk_drew ?_ | refine blk_alloc ?_ _)); exact BK2.out)) hb); have n4_ := xA (below_step (xB HB.out) hb); have n5_ := xA hb.size; clear BK0 BK1 BK2 HB; have HO_8 := n0_; have BK0 := n1_; have BK1 := n2_; have BK2 := n3_; have HB := n4_; have HS := n5_; clear n0_ n1_ n2_ n3_ n4_ n5_ hb ho6))
 go_loopg [10, 11, 18] k (fun kq v10 v11 v18 w' => ∃ (y_1 z_1 : Int) (x10_1 : List Int) (x11_1 x18_1 : Int), v11 = .int .i64 x11_1 ∧ v18 = .int .i64 x18_1 ∧ Aside0 (impl_ExactSecond_ex.l0 kq y_1 z_1 x10_1 x11_1 x18_1 l0 a1 b0 b1 = some (r1, r2)) ∧ Aside0 (kq ≤ k) ∧ Aside0 (Kd.R (Kd.int .i64) 3 w' w.heap.size (fun _ => True) v10 x10_1) ∧ Aside0 (w'.heap[q0]? = some (.cells (#[.int .i64 b0, .int .i64 b1, .int .i64 a1, .int .i64 b3, .int .i64 b4, .bool b5]) 91 (0, 0))) ∧ Aside0 (w'.heap[q1]? = some (.cells #[.int .i64 y_1] 3 (0, 0))) ∧ Aside0 (w'.heap[q2]? = some (.cells #[.int .i64 z_1] 3 (0, 0))) ∧ Aside0 (Below w0.heap.size w0 w') ∧ Aside0 (w.heap.size ≤ w'.heap.size))
 case atStart => exact ⟨y, z, ([] : List Int), 1, 0, xs, xs, H', ⟨Nat.le_refl _⟩, ⟨xR HO_8.out⟩, ⟨by ((with_reducible repeat (first | refine blk_drewN ?_ _ | refine blk_drew ?_ | refine blk_alloc ?_ _)); exact BK0.out)⟩, ⟨by ((with_reducible repeat (first | refine blk_drewN ?_ _ | refine blk_drew ?_ | refine blk_alloc ?_ _)); exact BK1.out)⟩, ⟨by ((with_reducible repeat (first | refine blk_drewN ?_ _ | refine blk_drew ?_ | refine blk_alloc ?_ _)); exact BK2.out)⟩, ⟨(xB HB.out)⟩, ⟨HS.out⟩⟩
 case round =>
  clear H' BK0 BK1 BK2 HB HO_8 HS
  try clear c0
  obtain ⟨y_1, z_1, x10_1, x11_1, x18_1, rfl, rfl, HA, HK1, HO_8, BK0, BK1, BK2, HB, HS⟩ := hrel
  cases gk with
  | zero => exact absurd HA.out (by simp [impl_ExactSecond_ex.l0])
  | succ k1 =>
   have H := HA.out
   clear HA
   simp only [impl_ExactSecond_ex.l0] at H
   by_cases c5 : x18_1 < (l0.length : Int)
   rotate_left
   ·rw [if_neg c5] at H
    have c5b0 : decide (x18_1 < (l0.length : Int)) = false := decide_eq_false c5
    clear c5
    simp only [Option.some.injEq, Prod.mk.injEq] at H
    obtain ⟨rfl, rfl⟩ := H
    go_wp2
    go_ret2
    exact ⟨_, xr, xR HO_8.out, (xB HB.out)⟩
   rw [if_pos c5] at H
   have c5b0 : decide (x18_1 < (l0.length : Int)) = true := decide_eq_true c5
   by_cases c6 : 0 ≤ x18_1
   rotate_left
   ·rw [if_neg c6] at H
    exact absurd H (by simp)
   rw [if_pos c6] at H
   have c6b0 : decide (0 ≤ x18_1) = true := decide_eq_true c6
   by_cases c8 : 0 ≤ a1
   rotate_left
   ·rw [if_neg c8] at H
    exact absurd H (by simp)
   rw [if_pos c8] at H
   have HSH := xA c8
   have c8b0 := eq_true c8
   have c8b1 : decide (0 ≤ a1) = true := decide_eq_true c8
   clear c8
   obtain ⟨ad371, e371, hx371_0⟩ := Kd.at_int HR0.out x18_1 c6 c5
   cases e371
   replace hx371_0 := (HB.out.cell (World.block_lt_of_cell? w0 _ hx371_0)).trans hx371_0
   replace c5 := eq_true c5
   replace c6 := eq_true c6
   obtain ⟨ji9, hji9⟩ : ∃ j_ : Int, (shl .i64 x11_1 a1) = j_ := ⟨_, rfl⟩
   rw [hji9] at H
   obtain ⟨hji9_, hji9z, hji9y, hji9x⟩ := xSh hji9
   obtain ⟨t1, A1, H⟩ := xO H
   (try dsimp only at H)
   by_cases c9 : t1 = true
   rotate_left
   ·replace c9 := Bool.eq_false_iff.mpr c9
    subst c9
    rw [if_neg (show ¬ (false = true) by decide)] at H
    simp only [Option.some.injEq, Prod.mk.injEq] at H
    obtain ⟨rfl, rfl⟩ := H
    go_wp2_with (first | (go_at_call 340; (with_reducible refine (impl_ExactSecond_c1.calls x18_1 b0 b1 a1 b3 b4 b5 y_1 z_1 _ q0 q1 q2 HSH.out ?sq0 ?sq1 ?sq2).mono ?_); (case sq0 => ((with_reducible repeat (first | refine blk_drewN ?_ _ | refine blk_drew ?_ | refine blk_alloc ?_ _)); exact BK0.out)); (case sq1 => ((with_reducible repeat (first | refine blk_drewN ?_ _ | refine blk_drew ?_ | refine blk_alloc ?_ _)); exact BK1.out)); (case sq2 => ((with_reducible repeat (first | refine blk_drewN ?_ _ | refine blk_drew ?_ | refine blk_alloc ?_ _)); exact BK2.out)); rintro e w' ⟨rfl, ⟨nd, rfl⟩⟩) | ((with_reducible refine gate_callee (f := 262) rfl ?_); refine goesL_ (some 34) rfl rfl Try.func262 (by kernel_rfl) rfl #[.int .i64 ji9] rfl (by (try simp only [List.map_toArray, List.map_cons, List.map_nil]); first | done | (simp only [hji9]; rfl) | rfl | (simp only [List.length_drop, List.length_take]; rfl)) ?_; (with_reducible refine (impl_isNumber.calls ji9 false _ A1.out).mono ?_); rintro e w' ⟨rfl, ⟨nd, rfl⟩⟩; refine ⟨_, rfl, ?_⟩))
    go_ret2
    exact ⟨_, by first | rfl | (simp [errW_none, errW_some] <;> rfl) | (simp only [← hji9]; first | rfl | (simp [errW_none, errW_some] <;> rfl)) | (simp [*, errW_none, errW_some] <;> rfl), Kd.R_nil _ _ _ _ _, (xB HB.out)⟩
   subst c9
   rw [if_pos rfl] at H
   obtain ⟨t2, A2, H⟩ := xO H
   (try dsimp only at H)
   by_cases c10 : t2 = true
   rotate_left
   ·replace c10 := Bool.eq_false_iff.mpr c10
    subst c10
    rw [if_neg (show ¬ (false = true) by decide)] at H
    simp only [Option.some.injEq, Prod.mk.injEq] at H
    obtain ⟨rfl, rfl⟩ := H
    go_wp2_with (first | (go_at_call 340; (with_reducible refine (impl_ExactSecond_c1.calls x18_1 b0 b1 a1 b3 b4 b5 y_1 z_1 _ q0 q1 q2 HSH.out ?sq0 ?sq1 ?sq2).mono ?_); (case sq0 => ((with_reducible repeat (first | refine blk_drewN ?_ _ | refine blk_drew ?_ | refine blk_alloc ?_ _)); exact BK0.out)); (case sq1 => ((with_reducible repeat (first | refine blk_drewN ?_ _ | refine blk_drew ?_ | refine blk_alloc ?_ _)); exact BK1.out)); (case sq2 => ((with_reducible repeat (first | refine blk_drewN ?_ _ | refine blk_drew ?_ | refine blk_alloc ?_ _)); exact BK2.out)); rintro e w' ⟨rfl, ⟨nd, rfl⟩⟩) | ((with_reducible refine gate_callee (f := 262) rfl ?_); refine goesL_ (some 34) rfl rfl Try.func262 (by kernel_rfl) rfl #[.int .i64 ji9] rfl (by (try simp only [List.map_toArray, List.map_cons, List.map_nil]); first | done | (simp only [hji9]; rfl) | rfl | (simp only [List.length_drop, List.length_take]; rfl)) ?_; (with_reducible refine (impl_isNumber.calls ji9 true _ A1.out).mono ?_); rintro e w' ⟨rfl, ⟨nd, rfl⟩⟩; refine ⟨_, rfl, ?_⟩) | (go_at_call 262; (with_reducible refine (impl_isNumber.calls (wrap64 ((impl_ExactSecond_nx b0 b1 a1 x18_1 y_1 z_1) + (wrap64 ((rd l0 x18_1) * ji9)))) false _ A2.out).mono ?_); rintro e w' ⟨rfl, ⟨nd, rfl⟩⟩))
    go_ret2
    exact ⟨_, by first | rfl | (simp [errW_none, errW_some] <;> rfl) | (simp only [← hji9]; first | rfl | (simp [errW_none, errW_some] <;> rfl)) | (simp [*, errW_none, errW_some] <;> rfl), Kd.R_nil _ _ _ _ _, (xB HB.out)⟩
   subst c10
   rw [if_pos rfl] at H
   by_cases c14 : x10_1.length < 17592186044416
   rotate_left
   ·rw [if_neg c14] at H
    exact absurd H (by simp)
   rw [if_pos c14] at H
   have LMc14 := xA c14
   clear c14
   obtain ⟨y373, hy373⟩ : ∃ y_ : List Int, y_ = (x10_1 ++ [(wrap64 ((impl_ExactSecond_nx b0 b1 a1 x18_1 y_1 z_1) + (wrap64 ((rd l0 x18_1) * ji9))))]) := ⟨_, rfl⟩
   rw [← hy373] at H
   have Ny := xA hy373
   clear hy373
   have H' := xA H
   clear H
   go_wp2_with (first | (go_at_call 340; (with_reducible refine (impl_ExactSecond_c1.calls x18_1 b0 b1 a1 b3 b4 b5 y_1 z_1 _ q0 q1 q2 HSH.out ?sq0 ?sq1 ?sq2).mono ?_); (case sq0 => ((with_reducible repeat (first | refine blk_drewN ?_ _ | refine blk_drew ?_ | refine blk_alloc ?_ _)); exact BK0.out)); (case sq1 => ((with_reducible repeat (first | refine blk_drewN ?_ _ | refine blk_drew ?_ | refine blk_alloc ?_ _)); exact BK1.out)); (case sq2 => ((with_reducible repeat (first | refine blk_drewN ?_ _ | refine blk_drew ?_ | refine blk_alloc ?_ _)); exact BK2.out)); rintro e w' ⟨rfl, ⟨nd, rfl⟩⟩) | ((with_reducible refine gate_callee (f := 262) rfl ?_); refine goesL_ (some 34) rfl rfl Try.func262 (by kernel_rfl) rfl #[.int .i64 ji9] rfl (by (try simp only [List.map_toArray, List.map_cons, List.map_nil]); first | done | (simp only [hji9]; rfl) | rfl | (simp only [List.length_drop, List.length_take]; rfl)) ?_; (with_reducible refine (impl_isNumber.calls ji9 true _ A1.out).mono ?_); rintro e w' ⟨rfl, ⟨nd, rfl⟩⟩; refine ⟨_, rfl, ?_⟩) | (go_at_call 262; (with_reducible refine (impl_isNumber.calls (wrap64 ((impl_ExactSecond_nx b0 b1 a1 x18_1 y_1 z_1) + (wrap64 ((rd l0 x18_1) * ji9)))) true _ A2.out).mono ?_); rintro e w' ⟨rfl, ⟨nd, rfl⟩⟩) | ((with_reducible refine gate_builtin (b := .append) (xs := #[.tmp 41, .tmp 43]) rfl ?_); at_builtin; refine Kd.R_append (Kd.int .i64) (w0 := ?bw) w.heap.size rfl (.tmp 41) (.tmp 43) 24 3 (.int .i64 0) 8 rfl Try.underlying24 info3 rfl (by decide) (by omega) u10 x10_1 (wrap64 ((impl_ExactSecond_nx b0 b1 a1 x18_1 y_1 z_1) + (wrap64 ((rd l0 x18_1) * ji9)))) [.int .i64 (wrap64 ((impl_ExactSecond_nx b0 b1 a1 x18_1 y_1 z_1) + (wrap64 ((rd l0 x18_1) * ji9))))] (fun _ => True) (fun _ => False) rfl rfl ?aP (fun _ hk => hk.elim) ?aF ?aO ?aB ?aS ?aL ?_; (case aB => exact Below.refl _ _); (case aP => exact rfl); (case aF => exact (fun _ _ => trivial)); (case aO => exact (xR HO_8.out)); (case aS => exact HS.out); (case aL => have := LMc14.out; omega); intro v374 w16 ho hb hg hat; rw [← Ny.out] at ho; have HOX := HO_8; have n0_ := xA (blk_grown (g := q0) (o := .cells #[.int .i64 b0, .int .i64 b1, .int .i64 a1, .int .i64 b3, .int .i64 b4, .bool b5] 91 (0, 0)) (by ((with_reducible repeat (first | refine blk_drewN ?_ _ | refine blk_drew ?_ | refine blk_alloc ?_ _)); exact BK0.out)) hg (fun e_ => Nat.not_le_of_lt HQ0.out (Kd.R_base HOX.out q0 e_.symm))); have n1_ := xA (blk_grown (g := q1) (o := .cells #[.int .i64 y_1] 3 (0, 0)) (by ((with_reducible repeat (first | refine blk_drewN ?_ _ | refine blk_drew ?_ | refine blk_alloc ?_ _)); exact BK1.out)) hg (fun e_ => Nat.not_le_of_lt HQ1.out (Kd.R_base HOX.out q1 e_.symm))); have n2_ := xA (blk_grown (g := q2) (o := .cells #[.int .i64 z_1] 3 (0, 0)) (by ((with_reducible repeat (first | refine blk_drewN ?_ _ | refine blk_drew ?_ | refine blk_alloc ?_ _)); exact BK2.out)) hg (fun e_ => Nat.not_le_of_lt HQ2.out (Kd.R_base HOX.out q2 e_.symm))); have n3_ := xA (ho); have n4_ := xA (Below.trans (xB HB.out) (hb.mono HW.out)); have n5_ := xA (Nat.le_trans HS.out hb.size); clear BK0 BK1 BK2 HB HO_8 HS; have BK0 := n0_; have BK1 := n1_; have BK2 := n2_; have HO_9 := n3_; have HB := n4_; have HS := n5_; clear n0_ n1_ n2_ n3_ n4_ n5_ ho hb hg hat HOX) | (go_at_call 341; (with_reducible refine (impl_ExactSecond_c2.calls (wrap64 ((impl_ExactSecond_nx b0 b1 a1 x18_1 y_1 z_1) + (wrap64 ((rd l0 x18_1) * ji9)))) y_1 z_1 w0 _ q1 q2 ?sq1 ?sq2 HN12.out ?sB HG1.out HG2.out).mono ?_); (case sq1 => ((with_reducible repeat (first | refine blk_drewN ?_ _ | refine blk_drew ?_ | refine blk_alloc ?_ _)); exact BK1.out)); (case sq2 => ((with_reducible repeat (first | refine blk_drewN ?_ _ | refine blk_drew ?_ | refine blk_alloc ?_ _)); exact BK2.out)); (case sB => exact (xB HB.out)); rintro e w17 ⟨rfl, hbk1, hbk2, hb, wm, hk1, hk2⟩; have n0_ := xA (KeepBut.blk hk2 (KeepBut.blk hk1 (by ((with_reducible repeat (first | refine blk_drewN ?_ _ | refine blk_drew ?_ | refine blk_alloc ?_ _)); exact BK0.out)) HN01.out (by simp)) HN02.out (by simp)); have n1_ := xA hbk1; have n2_ := xA hbk2; have n3_ := xA (impl_ExactSecond_ex.farB (impl_ExactSecond_ex.farB (xR HO_9.out) hk1 HQ1.out) hk2 HQ2.out); have n4_ := xA hb; have n5_ := xA (Nat.le_trans HS.out (Nat.le_trans hk1.1 hk2.1)); clear BK0 BK1 BK2 HB HO_9 HS; have BK0 := n0_; have BK1 := n1_; have BK2 := n2_; have HO_9 := n3_; have HB := n4_; have HS := n5_; clear n0_ n1_ n2_ n3_ n4_ n5_ hbk1 hbk2 hb hk1 hk2))
   go_roundg k1
   case measure => clear hji9_ hji9z hji9y hji9x hji9 c8b0 c8b1 c5b0 c6b0; have := HK1.out; omega
   case rel => exact ⟨(wrap64 ((impl_ExactSecond_nx b0 b1 a1 x18_1 y_1 z_1) + (wrap64 ((rd l0 x18_1) * ji9)))), y_1, y373, ji9, (wrap64 (x18_1 + 1)), (by first | rfl | (simp; done) | (simp only [← hji9] <;> (first | rfl | simp)) | (simp [*]; done)), xs, H', ⟨Nat.le_of_succ_le HK1.out⟩, ⟨xR HO_9.out⟩, ⟨by ((with_reducible repeat (first | refine blk_drewN ?_ _ | refine blk_drew ?_ | refine blk_alloc ?_ _)); exact BK0.out)⟩, ⟨by ((with_reducible repeat (first | refine blk_drewN ?_ _ | refine blk_drew ?_ | refine blk_alloc ?_ _)); exact BK1.out)⟩, ⟨by ((with_reducible repeat (first | refine blk_drewN ?_ _ | refine blk_drew ?_ | refine blk_alloc ?_ _)); exact BK2.out)⟩, ⟨(xB HB.out)⟩, ⟨HS.out⟩⟩
/-! ### impl_ExactSecond: function 140 -/
theorem impl_ExactSecond.xS1 {P : Program} {ops : Array Oper} {Q : Exit → Act → World → Prop} {rest : List Oper} {o : Oper} {a : Act} {W : World} {g : Nat} {t ty : TypeId} {c0 : Value} {q : IntKind} {z : Int} {v0 : Value} (x y : Tmp) (hb : W.heap[g]? = some (.cells #[c0] t (0, 0)))
    (h : ∀ w', w'.heap[g]? = some (.cells #[v0] t (0, 0)) → KeepBut W w' g none → (∀ {B : Nat} {w0 : World}, Below B w0 W → B ≤ g → Below B w0 w') → wpList P ops Q rest a w')
    (hv : v0 = .int q z := by rfl) (ho : o.op = .store ty (.tmp x) (.tmp y) := by rfl) (hgd : o.guard = none := by rfl) (hN : o.dst = none := by rfl) (hx : a.eval (.tmp x) = .pointer (some ⟨g, 0, none⟩) := by first | rfl | (go_simp; done) | (go_simp; rfl)) (hy : a.eval (.tmp y) = v0 := by first | rfl | (go_simp; done) | (go_simp; rfl))
    (hi : (P.info? ty).map (·.size) = some 1 := by kernel_rfl) : wpList P ops Q (o :: rest) a W := by
  subst hv
  have hr := run_storeCells_cells (P := P) g 0 [.int q z] 0 W (fun j hj => by rw [show 0 + 0 + j = j by omega, blk_cell hb j]; simp at hj ⊢; exact hj) (fun j _ => blk_frozen hb _) (fun v hv => by simp at hv; subst hv; rfl)
  have hr' : (storeCells ⟨g, 0, none⟩ [.int q z]).run P W = .ok () (W.setCell ⟨g, 0, none⟩ (.int q z)) := hr.trans rfl
  have hrun : (execOp a.eval o).run P W = .ok .skip (W.setCell ⟨g, 0, none⟩ (.int q z)) := by
    cases hq : P.info? ty with
    | none => simp [hq] at hi
    | some i =>
      have hs : i.size = 1 := by simpa [hq] using hi
      unfold execOp
      simp only [ho, hx, hy, Instr.storeAt, Instr.sureAddr, Sem.run_bind, Sem.run_pure, Result.andThen_ok]
      simp [storeVar, sizeOf, typeInfo, hq, Value.cells, hs, hr']
  refine store_event hgd ho hN hrun (fun w' hw => ?_)
  subst hw
  exact h _ (blk_put hb 0 _ rfl) ((KeepBut.refl W g none).set_ 0 _) (fun hB hg => hB.setCell hg _)
def impl_ExactSecond.f (k : Nat) (a0_0 : Int) (a0_1 : Int) (a0_2 : Int) (a0_3 : Int) (a0_4 : Int) (a0_5 : Bool) (a1 a2 : Int) (l3 : List Int) : Option (List Int × Bool) := (impl_Second_isAt.f a0_0 a0_1 a0_2 a0_3 a0_4 a0_5 a1 a2).bind fun t1 => (if t1 = true then ((impl_isSignal.f k l3).bind fun t2 => (if t2 = true then (impl_ExactSecond_ex.l0 k a1 a2 ([] : List Int) 1 0 l3 a0_2 a0_0 a0_1) else (some (([] : List Int), false)))) else (some (([] : List Int), false)))
theorem impl_ExactSecond.mono : ∀ a0 a1 a2 a3 a4 a5 a6 a7 a8 k, LeO (impl_ExactSecond.f k a0 a1 a2 a3 a4 a5 a6 a7 a8) (impl_ExactSecond.f (k + 1) a0 a1 a2 a3 a4 a5 a6 a7 a8) := by
 intro a0 a1 a2 a3 a4 a5 a6 a7 a8 k
 have ih0 := impl_ExactSecond_ex.mono_l k
 have m0 := @impl_isSignal.mono
 unfold impl_ExactSecond.f
 exact xM
set_option maxHeartbeats 200000000 in
set_option maxRecDepth 100000 in
theorem impl_ExactSecond.calls (k : Nat) (a0_0 : Int) (a0_1 : Int) (a0_2 : Int) (a0_3 : Int) (a0_4 : Int) (a0_5 : Bool) (a1 a2 : Int) (A3 : Option Addr) (c3 : Nat) (l3 : List Int) (r1 : List Int) (r2 : Bool) (w : World) (hr3 : Kd.C (Kd.int .i64) w A3 l3.length l3) (hc3 : l3.length ≤ c3) (h : impl_ExactSecond.f k a0_0 a0_1 a0_2 a0_3 a0_4 a0_5 a1 a2 l3 = some (r1, r2)) :
  Calls Try.prog 140 #[.agg #[.int .i64 a0_0, .int .i64 a0_1, .int .i64 a0_2, .int .i64 a0_3, .int .i64 a0_4, .bool a0_5], .int .i64 a1, .int .i64 a2, .slice A3 l3.length c3] w fun e w' => ∃ v0_ : Value, e = .returned (.tuple #[v0_, .bool r2]) ∧ Kd.R (Kd.int .i64) 3 w' w.heap.size (fun _ => True) v0_ r1 ∧ Below w.heap.size w w' := by
 have hu91 := Try.underlying91
 have HR3 := xA hr3
 have HC3 := xA hc3
 clear hr3 hc3
 have HB := xA (Below.refl w.heap.size w)
 have H : ((impl_Second_isAt.f a0_0 a0_1 a0_2 a0_3 a0_4 a0_5 a1 a2).bind fun t1 => (if t1 = true then ((impl_isSignal.f k l3).bind fun t2 => (if t2 = true then (impl_ExactSecond_ex.l0 k a1 a2 ([] : List Int) 1 0 l3 a0_2 a0_0 a0_1) else (some (([] : List Int), false)))) else (some (([] : List Int), false)))) = some (r1, r2) := h
 clear h
 obtain ⟨t1, A1, H⟩ := xO H
 (try dsimp only at H)
 by_cases c1 : t1 = true
 rotate_left
 ·replace c1 := Bool.eq_false_iff.mpr c1
  subst c1
  rw [if_neg (show ¬ (false = true) by decide)] at H
  simp only [Option.some.injEq, Prod.mk.injEq] at H
  obtain ⟨rfl, rfl⟩ := H
  go_enter Try.func140, Try.ntmps140
  go_wp2_with (first | (refine xg 4 rfl ?_; refine xV 4 #[.int .i64 a0_0, .int .i64 a0_1, .int .i64 a0_2, .int .i64 a0_3, .int .i64 a0_4, .bool a0_5] 91 ?_; intro gb1 hg w3 hbox hb; replace HB := xA (below_step (xB HB.out) hb); have BK0 := xA hbox; clear hb hbox hg) | (refine xg 5 rfl ?_; refine xV 5 #[.int .i64 a1] 3 ?_; intro gb2 hg w4 hbox hb; have BK1 := xA hbox; have HG1 := xA (show w.heap.size ≤ gb2 by rw [hg]; exact below_size (xB HB.out)); replace HB := xA (below_step (xB HB.out) hb); have HN01 := xA (show gb1 ≠ gb2 by rw [hg]; exact Nat.ne_of_lt (blk_lt (by ((with_reducible repeat (first | refine blk_drewN ?_ _ | refine blk_drew ?_ | refine blk_alloc ?_ _)); exact BK0.out)))); replace BK0 := xA (blk_below (by ((with_reducible repeat (first | refine blk_drewN ?_ _ | refine blk_drew ?_ | refine blk_alloc ?_ _)); exact BK0.out)) hb); clear hb hbox hg; obtain ⟨hcz_0, hcz_1, hcz_2, hcz_3, hcz_4, hcz_5, hczf_0, hczf_1, hczf_2, hczf_3, hczf_4, hczf_5⟩ := xZ6 BK0.out; have hd_0 : w4.cell? ⟨gb2, 0, none⟩ = some (.int .i64 a1) := (blk_cell BK1.out 0).trans rfl; have he_0 := blk_frozen BK1.out 0) | (go_at_call 336; (with_reducible refine (impl_Second_isAt.calls a0_0 a0_1 a0_2 a0_3 a0_4 a0_5 a1 a2 false _ A1.out).mono ?_); rintro e w7 ⟨rfl, hb⟩; replace HB := xA (below_step (xB HB.out) hb); replace BK0 := xA (blk_below (by ((with_reducible repeat (first | refine blk_drewN ?_ _ | refine blk_drew ?_ | refine blk_alloc ?_ _)); exact BK0.out)) hb); replace BK1 := xA (blk_below (by ((with_reducible repeat (first | refine blk_drewN ?_ _ | refine blk_drew ?_ | refine blk_alloc ?_ _)); exact BK1.out)) hb); clear hb))
  go_ret2
  exact ⟨_, xr, Kd.R_nil _ _ _ _ _, (xB HB.out)⟩
 subst c1
 rw [if_pos rfl] at H
 replace H := Option.bind_eq_some_iff.mp H
 obtain ⟨t2, A20, H⟩ := H
 (try dsimp only at H)
 have A2_ := xA A20
 clear A20
 by_cases c2_ : t2 = true
 rotate_left
 ·replace c2_ := Bool.eq_false_iff.mpr c2_
  subst c2_
  rw [if_neg (show ¬ (false = true) by decide)] at H
  simp only [Option.some.injEq, Prod.mk.injEq] at H
  obtain ⟨rfl, rfl⟩ := H
  go_enter Try.func140, Try.ntmps140
  go_wp2_with (first | (refine xg 4 rfl ?_; refine xV 4 #[.int .i64 a0_0, .int .i64 a0_1, .int .i64 a0_2, .int .i64 a0_3, .int .i64 a0_4, .bool a0_5] 91 ?_; intro gb1 hg w3 hbox hb; replace HB := xA (below_step (xB HB.out) hb); have BK0 := xA hbox; clear hb hbox hg) | (refine xg 5 rfl ?_; refine xV 5 #[.int .i64 a1] 3 ?_; intro gb2 hg w4 hbox hb; have BK1 := xA hbox; have HG1 := xA (show w.heap.size ≤ gb2 by rw [hg]; exact below_size (xB HB.out)); replace HB := xA (below_step (xB HB.out) hb); have HN01 := xA (show gb1 ≠ gb2 by rw [hg]; exact Nat.ne_of_lt (blk_lt (by ((with_reducible repeat (first | refine blk_drewN ?_ _ | refine blk_drew ?_ | refine blk_alloc ?_ _)); exact BK0.out)))); replace BK0 := xA (blk_below (by ((with_reducible repeat (first | refine blk_drewN ?_ _ | refine blk_drew ?_ | refine blk_alloc ?_ _)); exact BK0.out)) hb); clear hb hbox hg; obtain ⟨hcz_0, hcz_1, hcz_2, hcz_3, hcz_4, hcz_5, hczf_0, hczf_1, hczf_2, hczf_3, hczf_4, hczf_5⟩ := xZ6 BK0.out; have hd_0 : w4.cell? ⟨gb2, 0, none⟩ = some (.int .i64 a1) := (blk_cell BK1.out 0).trans rfl; have he_0 := blk_frozen BK1.out 0) | (go_at_call 336; (with_reducible refine (impl_Second_isAt.calls a0_0 a0_1 a0_2 a0_3 a0_4 a0_5 a1 a2 true _ A1.out).mono ?_); rintro e w7 ⟨rfl, hb⟩; replace HB := xA (below_step (xB HB.out) hb); replace BK0 := xA (blk_below (by ((with_reducible repeat (first | refine blk_drewN ?_ _ | refine blk_drew ?_ | refine blk_alloc ?_ _)); exact BK0.out)) hb); replace BK1 := xA (blk_below (by ((with_reducible repeat (first | refine blk_drewN ?_ _ | refine blk_drew ?_ | refine blk_alloc ?_ _)); exact BK1.out)) hb); clear hb) | (go_at_call 233; (with_reducible refine (impl_isSignal.calls k _ _ l3 false _ ?side1 ?side2 A2_.out).mono ?_); (case side1 => exact xC (Kd.C_below HR3.out HB.out)); (case side2 => exact HC3.out); rintro e w' ⟨rfl, ⟨nd, rfl⟩⟩))
  go_ret2
  exact ⟨_, xr, Kd.R_nil _ _ _ _ _, (xB HB.out)⟩
 subst c2_
 rw [if_pos rfl] at H
 have A3_ := xA H
 clear H
 go_enter Try.func140, Try.ntmps140
 go_wp2_with (first | (refine xg 4 rfl ?_; refine xV 4 #[.int .i64 a0_0, .int .i64 a0_1, .int .i64 a0_2, .int .i64 a0_3, .int .i64 a0_4, .bool a0_5] 91 ?_; intro gb1 hg w3 hbox hb; replace HB := xA (below_step (xB HB.out) hb); have BK0 := xA hbox; clear hb hbox hg) | (refine xg 5 rfl ?_; refine xV 5 #[.int .i64 a1] 3 ?_; intro gb2 hg w4 hbox hb; have BK1 := xA hbox; have HG1 := xA (show w.heap.size ≤ gb2 by rw [hg]; exact below_size (xB HB.out)); replace HB := xA (below_step (xB HB.out) hb); have HN01 := xA (show gb1 ≠ gb2 by rw [hg]; exact Nat.ne_of_lt (blk_lt (by ((with_reducible repeat (first | refine blk_drewN ?_ _ | refine blk_drew ?_ | refine blk_alloc ?_ _)); exact BK0.out)))); replace BK0 := xA (blk_below (by ((with_reducible repeat (first | refine blk_drewN ?_ _ | refine blk_drew ?_ | refine blk_alloc ?_ _)); exact BK0.out)) hb); clear hb hbox hg; obtain ⟨hcz_0, hcz_1, hcz_2, hcz_3, hcz_4, hcz_5, hczf_0, hczf_1, hczf_2, hczf_3, hczf_4, hczf_5⟩ := xZ6 BK0.out; have hd_0 : w4.cell? ⟨gb2, 0, none⟩ = some (.int .i64 a1) := (blk_cell BK1.out 0).trans rfl; have he_0 := blk_frozen BK1.out 0) | (go_at_call 336; (with_reducible refine (impl_Second_isAt.calls a0_0 a0_1 a0_2 a0_3 a0_4 a0_5 a1 a2 true _ A1.out).mono ?_); rintro e w7 ⟨rfl, hb⟩; replace HB := xA (below_step (xB HB.out) hb); replace BK0 := xA (blk_below (by ((with_reducible repeat (first | refine blk_drewN ?_ _ | refine blk_drew ?_ | refine blk_alloc ?_ _)); exact BK0.out)) hb); replace BK1 := xA (blk_below (by ((with_reducible repeat (first | refine blk_drewN ?_ _ | refine blk_drew ?_ | refine blk_alloc ?_ _)); exact BK1.out)) hb); clear hb) | (go_at_call 233; (with_reducible refine (impl_isSignal.calls k _ _ l3 true _ ?side1 ?side2 A2_.out).mono ?_); (case side1 => exact xC (Kd.C_below HR3.out HB.out)); (case side2 => exact HC3.out); rintro e w' ⟨rfl, ⟨nd, rfl⟩⟩) | (refine xg 10 rfl ?_; refine xV 10 #[.int .i64 0] 3 ?_; intro gb3 hg w8 hbox hb; have BK2 := xA hbox; have HG2 := xA (show w.heap.size ≤ gb3 by rw [hg]; exact below_size (xB HB.out)); replace HB := xA (below_step (xB HB.out) hb); have HN02 := xA (show gb1 ≠ gb3 by rw [hg]; exact Nat.ne_of_lt (blk_lt (by ((with_reducible repeat (first | refine blk_drewN ?_ _ | refine blk_drew ?_ | refine blk_alloc ?_ _)); exact BK0.out)))); replace BK0 := xA (blk_below (by ((with_reducible repeat (first | refine blk_drewN ?_ _ | refine blk_drew ?_ | refine blk_alloc ?_ _)); exact BK0.out)) hb); have HN12 := xA (show gb2 ≠ gb3 by rw [hg]; exact Nat.ne_of_lt (blk_lt (by ((with_reducible repeat (first | refine blk_drewN ?_ _ | refine blk_drew ?_ | refine blk_alloc ?_ _)); exact BK1.out)))); replace BK1 := xA (blk_below (by ((with_reducible repeat (first | refine blk_drewN ?_ _ | refine blk_drew ?_ | refine blk_alloc ?_ _)); exact BK1.out)) hb); clear hb hbox hg) | ((with_reducible refine gate_store (t := 3) (p := 10) rfl ?_); refine impl_ExactSecond.xS1 (ty := 3) (v0 := .int .i64 a2) 10 21 BK2.out ?_; intro w9 hbk hk hB; replace HB := xA (hB HB.out HG2.out); replace BK2 := xA hbk; replace BK0 := xA (KeepBut.blk hk BK0.out HN02.out (by simp)); replace BK1 := xA (KeepBut.blk hk BK1.out HN12.out (by simp)); clear hbk hk hB; replace hz0 := blk_cell BK0.out; replace hy0 := blk_frozen BK0.out) | (go_at_call 287; (with_reducible refine (impl_ExactSecond_ex.calls k A3 c3 l3 a0_2 a0_0 a0_1 a0_3 a0_4 a0_5 a1 a2 r1 r2 w _ gb1 gb2 gb3 ?sq0 ?sq1 ?sq2 HR3.out HC3.out ?sB HG1.out HG2.out HN01.out HN02.out HN12.out A3_.out).mono ?_); (case sq0 => ((with_reducible repeat (first | refine blk_drewN ?_ _ | refine blk_drew ?_ | refine blk_alloc ?_ _)); exact BK0.out)); (case sq1 => ((with_reducible repeat (first | refine blk_drewN ?_ _ | refine blk_drew ?_ | refine blk_alloc ?_ _)); exact BK1.out)); (case sq2 => ((with_reducible repeat (first | refine blk_drewN ?_ _ | refine blk_drew ?_ | refine blk_alloc ?_ _)); exact BK2.out)); (case sB => exact (xB HB.out)); rintro e w10 ⟨v9, rfl, ho, hb⟩; have n0_ := xA (Kd.R_lower ho (below_size (xB HB.out))); clear HB ho; have HO := n0_; have HB := xA hb; clear n0_ hb))
 go_ret2
 exact ⟨_, xr, xR HO.out, (xB HB.out)⟩

/-! ### spec_wdNumber: function 342 -/
def spec_wdNumber.f (a0 : Int) : Option (Bool) := (spec_l1In.f a0 (-1000000000000) 1000000000000).bind fun t383 => (some t383)
set_option maxHeartbeats 200000000 in
set_option maxRecDepth 100000 in
theorem spec_wdNumber.calls (a0 : Int) (r : Bool) (w : World) (h : spec_wdNumber.f a0 = some r) :
  Calls Try.prog 342 #[.int .i64 a0] w fun e w' => e = .returned (.bool r) ∧ Drawn0 w w' := by
 have H : ((spec_l1In.f a0 (-1000000000000) 1000000000000).bind fun t383 => (some t383)) = some r := h
 clear h
 obtain ⟨t383, A2, H⟩ := xO H
 (try dsimp only at H)
 obtain rfl := Option.some.inj H
 go_enter Try.func342, Try.ntmps342
 go_wp2_with (first | (refine xG (some 4) Try.func230 #[.int .i64 a0, .int .i64 (-1000000000000), .int .i64 1000000000000] ?_; (with_reducible refine (spec_l1In.calls a0 (-1000000000000) 1000000000000 t383 _ A2.out).mono ?_); rintro e w' ⟨rfl, ⟨nd, rfl⟩⟩; refine ⟨_, rfl, ?_⟩))
 go_ret
 exact ⟨by first | rfl | (simp; done) | (simp [*]; done), by repeat (first | exact Drawn0.refl _ | apply Drawn0.step)⟩

end Go.Proofs.Ytjplcongellcmaa.PFnPairsRun
