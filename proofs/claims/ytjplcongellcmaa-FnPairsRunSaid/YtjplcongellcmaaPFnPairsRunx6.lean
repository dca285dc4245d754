/- What each Go function that the statement FnPairsRun reaches answers, proved call by call. No condition beyond those that the theorems print. (Written by wip/tools/xprint.py of this repo, over the kit's print.) -/
import Derived.Test.YtjplcongellcmaaPFnPairsRunx0
import Derived.Test.YtjplcongellcmaaPFnPairsRunx3
import Derived.Test.YtjplcongellcmaaPFnPairsRunx5
namespace Go.Proofs.Ytjplcongellcmaa.PFnPairsRun
open Go.RowKit Go.Proofs.YtjplcongellcmaaW.PrintWords Go.Proofs.YtjplcongellcmaaW.PrintLast Go.Proofs.YtjplcongellcmaaW.PrintMore
attribute [local go_sem] max2_int min2_int max_two min_two max_three min_three max_four min_four   -- for this text's walks alone
set_option linter.unusedVariables false
set_option linter.unusedSimpArgs false
def x6a0 : Array Bool := #[Zz,Zz,Zz,Zz,Zz,Zz,Zz,Zz,Zz,Zz,Zz]
def x6a1 : Array Bool := #[Yy,Zz,Zz,Zz,Zz,Zz,Zz,Zz,Zz,Zz,Zz]
def x6a2 : Array Bool := #[Yy,Zz,Zz,Zz,Yy,Zz,Zz,Zz,Zz,Zz,Zz]
def x6a3 : Array Bool := #[Yy,Zz,Zz,Zz,Yy,Zz,Zz,Yy,Zz,Zz,Zz]
def x6a4 : Array Bool := #[Yy,Yy,Zz,Zz,Yy,Zz,Zz,Yy,Zz,Zz,Zz]
def x6a5 : Array Bool := #[Yy,Yy,Yy,Zz,Yy,Zz,Zz,Yy,Zz,Zz,Zz]
def x6a6 : Array Bool := #[Yy,Yy,Yy,Yy,Yy,Zz,Zz,Yy,Zz,Zz,Zz]
def x6a7 : Array Bool := #[Yy,Yy,Yy,Yy,Yy,Zz,Zz,Yy,Yy,Zz,Zz]
def x6a8 : Array Bool := #[Yy,Yy,Yy,Yy,Yy,Yy,Zz,Yy,Yy,Zz,Zz]
def x6a9 : Array Bool := #[Yy,Yy,Yy,Yy,Yy,Yy,Yy,Yy,Yy,Zz,Zz]
def x6a10 : Array Bool := #[Yy,Yy,Yy,Yy,Yy,Yy,Yy,Yy,Yy,Yy,Zz]
def x6a11 : Array Bool := #[Yy,Yy,Yy,Yy,Yy,Yy,Yy,Yy,Yy,Yy,Yy]

/-! ### impl_shifted: function 254 -/
def impl_shifted.j0 : Nat → Int → Int → Int → Bool → Option (Int)
 | 0, _, _, _, _ => none
 | k + 1, x0, x1, x2, x7 => if x7 = true then (if 0 ≤ (wrap64 (x1 - 1)) then (if 0 ≤ x1 then (some (shr .i64 (wrap64 (x0 + (shl .i64 1 (wrap64 (x1 - 1))))) x1)) else (none)) else (none)) else (if x2 = 2 then (if x0 < 0 then (if 0 ≤ x1 then (some (wrap64 (-(shr .i64 (wrap64 (-x0)) x1)))) else (none)) else (if 0 ≤ x1 then (some (shr .i64 x0 x1)) else (none))) else (if 0 ≤ x1 then (some (shr .i64 x0 x1)) else (none)))
def impl_shifted.f (k : Nat) (a0 : Int) (a1 : Int) (a2 : Int) : Option (Int) := if a2 = 1 then (impl_shifted.j0 k a0 a1 a2 (decide (a1 > 0))) else (impl_shifted.j0 k a0 a1 a2 false)
theorem impl_shifted.mono_l : ∀ k, (∀ y0 y1 y2 y3, LeO (impl_shifted.j0 k y0 y1 y2 y3) (impl_shifted.j0 (k + 1) y0 y1 y2 y3))
 | 0 => fun _ _ _ _ r h => by simp [impl_shifted.j0] at h
 | k + 1 => by
  have ih0 := impl_shifted.mono_l k
  intros
  unfold impl_shifted.j0
  exact xM
theorem impl_shifted.mono : ∀ a0 a1 a2 k, LeO (impl_shifted.f k a0 a1 a2) (impl_shifted.f (k + 1) a0 a1 a2) := by
 intro a0 a1 a2 k
 have ih0 := impl_shifted.mono_l k
 unfold impl_shifted.f
 exact xM
set_option maxHeartbeats 200000000 in
set_option maxRecDepth 100000 in
theorem impl_shifted.calls (k : Nat) (a0 : Int) (a1 : Int) (a2 : Int) (r : Int) (w : World) (h : impl_shifted.f k a0 a1 a2 = some r) :
  Calls Try.prog 254 #[.int .i64 a0, .int .i64 a1, .int .i64 a2] w fun e w' => e = .returned (.int .i64 r) ∧ Drawn0 w w' := by
 have H : (if a2 = 1 then (impl_shifted.j0 k a0 a1 a2 (decide (a1 > 0))) else (impl_shifted.j0 k a0 a1 a2 false)) = some r := h
 clear h
 have HC4 := xA H
 clear H
 go_enter Try.func254, Try.ntmps254
 go_upto_region 1 with (fail)
 go_cut [7] from 8 to 8 (fun v7 wc => ∃ (kq : Nat) (x7_3 : Bool), v7 = .bool x7_3 ∧ Aside0 (impl_shifted.j0 kq a0 a1 a2 x7_3 = some r) ∧ Aside0 (kq ≤ k) ∧ Drawn0 w wc)
 case first => as_aux_lemma =>
  have H := HC4.out
  clear HC4
  by_cases c5 : a2 = 1
  rotate_left
  ·rw [if_neg c5] at H
   have c5b0 : (a2 == 1) = false := beq_eq_false_iff_ne.mpr c5
   have c5b1 : (a2 != 1) = true := bne_iff_ne.mpr c5
   (first | rw [c5b0] | (simp only [i64_w, i32_w]; rw [c5b0]) | skip)
   have H' := xA H
   clear H
   go_wp2
   go_meet
   case rel => exact ⟨_, (false), xs, H', ⟨by first | omega | exact Nat.le_refl _⟩, by repeat (first | exact Drawn0.refl _ | apply Drawn0.step)⟩
  rw [if_pos c5] at H
  have c5b0 : (a2 == 1) = true := beq_iff_eq.mpr c5
  have c5b1 : (a2 != 1) = false := bne_eq_false_iff_eq.mpr c5
  clear c5
  (first | rw [c5b0] | (simp only [i64_w, i32_w]; rw [c5b0]) | skip)
  have H' := xA H
  clear H
  go_wp2
  go_meet
  case rel => exact ⟨_, (decide (a1 > 0)), xs, H', ⟨by first | omega | exact Nat.le_refl _⟩, by repeat (first | exact Drawn0.refl _ | apply Drawn0.step)⟩
 case rest => as_aux_lemma =>
  clear HC4
  obtain ⟨kq, x7_3, rfl, HA, HJ3, ⟨mc3, rfl⟩⟩ := hcut
  cases kq with
  | zero => exact absurd HA.out (by simp [impl_shifted.j0])
  | succ kj3 =>
   have H := HA.out
   clear HA
   simp only [impl_shifted.j0] at H
   by_cases c6 : x7_3 = true
   ·subst c6
    rw [if_pos rfl] at H
    obtain ⟨ji7, hji7⟩ : ∃ j_ : Int, (wrap64 (a1 - 1)) = j_ := ⟨_, rfl⟩
    (first | rw [hji7] at H | simp only [hji7] at H)
    have hji7w : (IntKind.i64.wrap (a1 - 1)) = ji7 := (i64_w _).trans hji7
    by_cases c8 : 0 ≤ (ji7)
    rotate_left
    ·rw [if_neg c8] at H
     exact absurd H (by simp)
    rw [if_pos c8] at H
    have c8b0 := eq_true c8
    have c8b1 : decide (0 ≤ (ji7)) = true := decide_eq_true c8
    clear c8
    obtain ⟨ji9, hji9⟩ : ∃ j_ : Int, (shl .i64 1 (ji7)) = j_ := ⟨_, rfl⟩
    (first | rw [hji9] at H | simp only [hji9] at H)
    have hji9_ : (IntKind.i64.wrap (1 * 2 ^ min (ji7).toNat 64)) = ji9 := hji9
    have hji9z : (ji7) ≤ 64 → (IntKind.i64.wrap (1 * 2 ^ (ji7).toNat)) = ji9 := shl_small hji9
    have hji9u : (IntKind.i64.wrap (2 ^ min (ji7).toNat 64)) = ji9 := by have h_ := hji9_; rw [Int.one_mul] at h_; exact h_
    have hji9v : (ji7) ≤ 64 → (IntKind.i64.wrap (2 ^ (ji7).toNat)) = ji9 := fun hle_ => by have h_ := hji9z hle_; rw [Int.one_mul] at h_; exact h_
    have hji9y : (wrap64 (1 * 2 ^ min (ji7).toNat 64)) = ji9 := (i64_w _).symm.trans hji9_
    have hji9x : (ji7) ≤ 64 → (wrap64 (1 * 2 ^ (ji7).toNat)) = ji9 := fun h_ => (i64_w _).symm.trans (hji9z h_)
    by_cases c10 : 0 ≤ a1
    rotate_left
    ·rw [if_neg c10] at H
     exact absurd H (by simp)
    rw [if_pos c10] at H
    have c10b0 := eq_true c10
    have c10b1 : decide (0 ≤ a1) = true := decide_eq_true c10
    clear c10
    obtain ⟨ji11, hji11⟩ : ∃ j_ : Int, (shr .i64 (wrap64 (a0 + (ji9))) a1) = j_ := ⟨_, rfl⟩
    (first | rw [hji11] at H | simp only [hji11] at H)
    have hji11_ : ((wrap64 (a0 + (ji9))) / 2 ^ min a1.toNat 64) = ji11 := hji11
    have hji11z : a1 ≤ 64 → ((wrap64 (a0 + (ji9))) / 2 ^ a1.toNat) = ji11 := shr_small hji11
    obtain rfl := Option.some.inj H
    go_wp2
    go_ret
    exact ⟨by first | rfl | (simp; done) | (simp only [← hji7, ← hji9, ← hji11] <;> (first | rfl | simp)) | (simp [*]; done), by repeat (first | exact Drawn0.refl _ | apply Drawn0.step)⟩
   replace c6 := Bool.eq_false_iff.mpr c6
   subst c6
   rw [if_neg (show ¬ (false = true) by decide)] at H
   by_cases c12 : a2 = 2
   rotate_left
   ·rw [if_neg c12] at H
    have c12b0 : (a2 == 2) = false := beq_eq_false_iff_ne.mpr c12
    have c12b1 : (a2 != 2) = true := bne_iff_ne.mpr c12
    by_cases c18 : 0 ≤ a1
    rotate_left
    ·rw [if_neg c18] at H
     exact absurd H (by simp)

    rw [if_pos c18] at H
    have c18b0 := eq_true c18
    have c18b1 : decide (0 ≤ a1) = true := decide_eq_true c18
    clear c18
    obtain ⟨ji19, hji19⟩ : ∃ j_ : Int, (shr .i64 a0 a1) = j_ := ⟨_, rfl⟩
    (first | rw [hji19] at H | simp only [hji19] at H)
    have hji19_ : (a0 / 2 ^ min a1.toNat 64) = ji19 := hji19
    have hji19z : a1 ≤ 64 → (a0 / 2 ^ a1.toNat) = ji19 := shr_small hji19
    obtain rfl := Option.some.inj H
    go_wp2
    go_ret
    exact ⟨by first | rfl | (simp; done) | (simp only [← hji19] <;> (first | rfl | simp)) | (simp [*]; done), by repeat (first | exact Drawn0.refl _ | apply Drawn0.step)⟩
   rw [if_pos c12] at H
   have c12b0 : (a2 == 2) = true := beq_iff_eq.mpr c12
   have c12b1 : (a2 != 2) = false := bne_eq_false_iff_eq.mpr c12
   clear c12
   by_cases c13 : a0 < 0
   rotate_left
   ·rw [if_neg c13] at H
    have c13b0 : decide (a0 < 0) = false := decide_eq_false c13
    clear c13
    by_cases c16 : 0 ≤ a1
    rotate_left
    ·rw [if_neg c16] at H
     exact absurd H (by simp)
    rw [if_pos c16] at H
    have c16b0 := eq_true c16
    have c16b1 : decide (0 ≤ a1) = true := decide_eq_true c16
    clear c16
    obtain ⟨ji17, hji17⟩ : ∃ j_ : Int, (shr .i64 a0 a1) = j_ := ⟨_, rfl⟩
    (first | rw [hji17] at H | simp only [hji17] at H)
    have hji17_ : (a0 / 2 ^ min a1.toNat 64) = ji17 := hji17
    have hji17z : a1 ≤ 64 → (a0 / 2 ^ a1.toNat) = ji17 := shr_small hji17
    obtain rfl := Option.some.inj H
    go_wp2
    go_ret
    exact ⟨by first | rfl | (simp; done) | (simp only [← hji17] <;> (first | rfl | simp)) | (simp [*]; done), by repeat (first | exact Drawn0.refl _ | apply Drawn0.step)⟩
   rw [if_pos c13] at H
   have c13b0 : decide (a0 < 0) = true := decide_eq_true c13
   clear c13
   by_cases c14 : 0 ≤ a1
   rotate_left
   ·rw [if_neg c14] at H
    exact absurd H (by simp)
   rw [if_pos c14] at H
   have c14b0 := eq_true c14
   have c14b1 : decide (0 ≤ a1) = true := decide_eq_true c14
   clear c14
   obtain ⟨ji15, hji15⟩ : ∃ j_ : Int, (shr .i64 (wrap64 (-a0)) a1) = j_ := ⟨_, rfl⟩
   (first | rw [hji15] at H | simp only [hji15] at H)
   have hji15_ : ((wrap64 (-a0)) / 2 ^ min a1.toNat 64) = ji15 := hji15
   have hji15z : a1 ≤ 64 → ((wrap64 (-a0)) / 2 ^ a1.toNat) = ji15 := shr_small hji15
   obtain rfl := Option.some.inj H
   go_wp2
   go_ret
   exact ⟨by first | rfl | (simp; done) | (simp only [← hji15] <;> (first | rfl | simp)) | (simp [*]; done), by repeat (first | exact Drawn0.refl _ | apply Drawn0.step)⟩
/-! ### impl_Second_raw: function 343 -/
def impl_Second_raw.f (k : Nat) (a0_0 : Int) (a0_1 : Int) (a0_2 : Int) (a0_3 : Int) (a0_4 : Int) (a0_5 : Bool) (a1_0 : Int) (a1_1 : Int) (a2 : Int) : Option (Int) := (impl_shifted.f k (wrap64 ((wrap64 (a0_0 * a1_0)) + (wrap64 (a0_1 * a1_1)))) a0_2 a0_3).bind fun t317 => (some (wrap64 (t317 + a2)))
theorem impl_Second_raw.mono : ∀ a0 a1 a2 a3 a4 a5 a6 a7 a8 k, LeO (impl_Second_raw.f k a0 a1 a2 a3 a4 a5 a6 a7 a8) (impl_Second_raw.f (k + 1) a0 a1 a2 a3 a4 a5 a6 a7 a8) := by
 intro a0 a1 a2 a3 a4 a5 a6 a7 a8 k
 have m0 := @impl_shifted.mono
 unfold impl_Second_raw.f
 exact xM
set_option maxHeartbeats 200000000 in
set_option maxRecDepth 100000 in
theorem impl_Second_raw.calls (k : Nat) (a0_0 : Int) (a0_1 : Int) (a0_2 : Int) (a0_3 : Int) (a0_4 : Int) (a0_5 : Bool) (a1_0 : Int) (a1_1 : Int) (a2 : Int) (r : Int) (w : World) (h : impl_Second_raw.f k a0_0 a0_1 a0_2 a0_3 a0_4 a0_5 a1_0 a1_1 a2 = some r) :
  Calls Try.prog 343 #[.agg #[.int .i64 a0_0, .int .i64 a0_1, .int .i64 a0_2, .int .i64 a0_3, .int .i64 a0_4, .bool a0_5], .agg #[.int .i64 a1_0, .int .i64 a1_1], .int .i64 a2] w fun e w' => e = .returned (.int .i64 r) ∧ Below w.heap.size w w' := by
 have hu91 := Try.underlying91
 have hu180 := Try.underlying180
 have HB := xA (Below.refl w.heap.size w)
 have H : ((impl_shifted.f k (wrap64 ((wrap64 (a0_0 * a1_0)) + (wrap64 (a0_1 * a1_1)))) a0_2 a0_3).bind fun t317 => (some (wrap64 (t317 + a2)))) = some r := h
 clear h
 obtain ⟨t317, A4, H⟩ := xO H
 (try dsimp only at H)
 obtain rfl := Option.some.inj H
 go_enter Try.func343, Try.ntmps343
 go_wp2_with (first | (refine xg 3 rfl ?_; refine xV 3 #[.int .i64 a0_0, .int .i64 a0_1, .int .i64 a0_2, .int .i64 a0_3, .int .i64 a0_4, .bool a0_5] 91 ?_; intro gb315 hg w5 hbox hb; have BK315 := xA (hbox); have GW315 := xgw hg (below_size (xB HB.out)); have GE315 := GW315; replace HB := xA (below_step (xB HB.out) hb); clear hb hbox hg) | (refine xg 4 rfl ?_; refine xV 4 #[.int .i64 a1_0, .int .i64 a1_1] 180 ?_; intro gb316 hg w6 hbox hb; have BK316 := xA (hbox); have GW316 := xgw hg (below_size (xB1 GE315.out HB.out)); have GE316 := GW316; replace HB := xA (below_step (xB1 GE315.out HB.out) hb); have NB315_316 := xnl hg BK315; have NB316_315 := xng hg BK315; replace BK315 := xkb BK315 hb; clear hb hbox hg; have hnb7 := NB315_316.out; have hnc7 := NB316_315.out; replace hz315 := blk_cell BK315.out; replace hy315 := blk_frozen BK315.out; replace hz316 := blk_cell BK316.out; replace hy316 := blk_frozen BK316.out) | (refine xG (some 22) Try.func254 #[.int .i64 (wrap64 ((wrap64 (a0_0 * a1_0)) + (wrap64 (a0_1 * a1_1)))), .int .i64 a0_2, .int .i64 a0_3] ?_; (with_reducible refine (impl_shifted.calls k (wrap64 ((wrap64 (a0_0 * a1_0)) + (wrap64 (a0_1 * a1_1)))) a0_2 a0_3 t317 _ A4.out).mono ?_); rintro e w' ⟨rfl, ⟨nd, rfl⟩⟩; refine ⟨_, rfl, ?_⟩))
 go_ret
 exact ⟨xr, xB2 GE315.out GE316.out HB.out⟩

/-! ### impl_Second_step: function 337 -/
def impl_Second_step.f (k : Nat) (a0_0 : Int) (a0_1 : Int) (a0_2 : Int) (a0_3 : Int) (a0_4 : Int) (a0_5 : Bool) (a1_0 : Int) (a1_1 : Int) (a2 : Int) : Option (Int × Int) := (impl_Second_raw.f k a0_0 a0_1 a0_2 a0_3 a0_4 a0_5 a1_0 a1_1 a2).bind fun t321 => ((impl_Word_fit.f a0_4 a0_5 t321).bind fun t322 => (some (t322, a1_0)))
theorem impl_Second_step.mono : ∀ a0 a1 a2 a3 a4 a5 a6 a7 a8 k, LeO (impl_Second_step.f k a0 a1 a2 a3 a4 a5 a6 a7 a8) (impl_Second_step.f (k + 1) a0 a1 a2 a3 a4 a5 a6 a7 a8) := by
 intro a0 a1 a2 a3 a4 a5 a6 a7 a8 k
 have m0 := @impl_Second_raw.mono
 unfold impl_Second_step.f
 exact xM
def impl_Second_step.T1 : Bool × List (List Nat × List Nat) := (true, [([], []), ([0], [0]), ([], []), ([], []), ([], []), ([2, 3, 4], [2, 3, 4]), ([1, 5, 5], [1, 5]), ([], []), ([7], [7]), ([6, 8], [6, 8]), ([9, 6, 0, 1, 2, 3, 4, 5, 6, 7, 8, 9], [9])])
def impl_Second_step.B1 : List Nat := [0, 1, 0, 0, 0, 28, 63, 0, 128, 511, 1023]
theorem impl_Second_step.tab1 : rtab .any (opsOf Try.f337 1) = impl_Second_step.T1 := by kernel_rfl
theorem impl_Second_step.bits1 : waitsOk impl_Second_step.T1.2 impl_Second_step.B1 = true := by kernel_rfl
set_option maxHeartbeats 200000000 in
set_option maxRecDepth 100000 in
theorem impl_Second_step.calls (k : Nat) (a0_0 : Int) (a0_1 : Int) (a0_2 : Int) (a0_3 : Int) (a0_4 : Int) (a0_5 : Bool) (a1_0 : Int) (a1_1 : Int) (a2 : Int) (r1 : Int) (r2 : Int) (w : World) (h : impl_Second_step.f k a0_0 a0_1 a0_2 a0_3 a0_4 a0_5 a1_0 a1_1 a2 = some (r1, r2)) :
  Calls Try.prog 337 #[.agg #[.int .i64 a0_0, .int .i64 a0_1, .int .i64 a0_2, .int .i64 a0_3, .int .i64 a0_4, .bool a0_5], .agg #[.int .i64 a1_0, .int .i64 a1_1], .int .i64 a2] w fun e w' => e = .returned (.agg #[.int .i64 r1, .int .i64 r2]) ∧ Below w.heap.size w w' := by
 have hu91 := Try.underlying91
 have hu180 := Try.underlying180
 have hu46 := Try.underlying46
 have HB := xA (Below.refl w.heap.size w)
 have H : ((impl_Second_raw.f k a0_0 a0_1 a0_2 a0_3 a0_4 a0_5 a1_0 a1_1 a2).bind fun t321 => ((impl_Word_fit.f a0_4 a0_5 t321).bind fun t322 => (some (t322, a1_0)))) = some (r1, r2) := h
 clear h
 obtain ⟨t321, A4, H⟩ := xO H
 (try dsimp only at H)
 obtain ⟨t322, A5, H⟩ := xO H
 (try dsimp only at H)
 simp only [Option.some.injEq, Prod.mk.injEq] at H
 obtain ⟨rfl, rfl⟩ := H
 go_enter Try.func337, Try.ntmps337
 try go_wp2_with (first | (refine xg 3 rfl ?_; refine xV 3 #[.int .i64 a0_0, .int .i64 a0_1, .int .i64 a0_2, .int .i64 a0_3, .int .i64 a0_4, .bool a0_5] 91 ?_; intro gb318 hg w6 hbox hb; have BK318 := xA (hbox); have GW318 := xgw hg (below_size (xB HB.out)); have GE318 := GW318; replace HB := xA (below_step (xB HB.out) hb); clear hb hbox hg) | (refine xg 4 rfl ?_; refine xV 4 #[.int .i64 a1_0, .int .i64 a1_1] 180 ?_; intro gb319 hg w7 hbox hb; have BK319 := xA (hbox); have GW319 := xgw hg (below_size (xB1 GE318.out HB.out)); have GE319 := GW319; replace HB := xA (below_step (xB1 GE318.out HB.out) hb); have NB318_319 := xnl hg BK318; have NB319_318 := xng hg BK318; replace BK318 := xkb BK318 hb; clear hb hbox hg) | (refine xg 6 rfl ?_; refine xV 6 #[.int .i64 0, .int .i64 0] 180 ?_; intro gb320 hg w8 hbox hb; have BK320 := xA (hbox); have GW320 := xgw hg (below_size (xB2 GE318.out GE319.out HB.out)); have GE320 := GW320; replace HB := xA (below_step (xB2 GE318.out GE319.out HB.out) hb); have NB318_320 := xnl hg BK318; have NB320_318 := xng hg BK318; replace BK318 := xkb BK318 hb; have NB319_320 := xnl hg BK319; have NB320_319 := xng hg BK319; replace BK319 := xkb BK319 hb; clear hb hbox hg))
 replace BK318 := xA (blk_drew BK318.out)
 replace BK319 := xA (blk_drew BK319.out)
 replace BK320 := xA (blk_drew BK320.out)
 replace HB := xA (below_drew1 HB.out)
 refine start_ (n := 11) (S := fun w' => w'.cell? ⟨gb318, 0, none⟩ = some (.int .i64 a0_0) ∧ w'.cell? ⟨gb318, 1, none⟩ = some (.int .i64 a0_1) ∧ w'.cell? ⟨gb318, 2, none⟩ = some (.int .i64 a0_2) ∧ w'.cell? ⟨gb318, 3, none⟩ = some (.int .i64 a0_3) ∧ w'.cell? ⟨gb318, 4, none⟩ = some (.int .i64 a0_4) ∧ w'.cell? ⟨gb318, 5, none⟩ = some (.bool a0_5) ∧ w'.cell? ⟨gb319, 0, none⟩ = some (.int .i64 a1_0) ∧ w'.cell? ⟨gb319, 1, none⟩ = some (.int .i64 a1_1)) (ds := []) x6a0 (by kernel_rfl) rfl rfl ⟨(blk_cell BK318.out 0).trans rfl, (blk_cell BK318.out 1).trans rfl, (blk_cell BK318.out 2).trans rfl, (blk_cell BK318.out 3).trans rfl, (blk_cell BK318.out 4).trans rfl, (blk_cell BK318.out 5).trans rfl, (blk_cell BK319.out 0).trans rfl, (blk_cell BK319.out 1).trans rfl⟩ (fun hHeld => ?_); refine with_tabW impl_Second_step.tab1 impl_Second_step.bits1 (fun HT_ HW_ => ?_)
 generalize w8.drew = w9 at BK318 BK319 BK320 HB hHeld ⊢
 refine xP 0 7 x6a1 ?_
 refine xP 4 11 x6a2 ?_
 refine xP 7 14 x6a3 ?_
 refine xT8 hHeld 1 8 x6a4 ?_
 refine xT8 hHeld 2 9 x6a5 ?_
 refine xT8 hHeld 3 10 x6a6 ?_
 refine xT8 hHeld 8 15 x6a7 ?_
 refine xU 5 12 x6a8 (fun K hK => ?_)
 refine xY Try.func343 #[.agg #[.int .i64 a0_0, .int .i64 a0_1, .int .i64 a0_2, .int .i64 a0_3, .int .i64 a0_4, .bool a0_5], .agg #[.int .i64 a1_0, .int .i64 a1_1], .int .i64 a2] ?_
 with_reducible refine (impl_Second_raw.calls k a0_0 a0_1 a0_2 a0_3 a0_4 a0_5 a1_0 a1_1 a2 t321 _ A4.out).mono ?_
 rintro e w10 ⟨rfl, hb⟩
 refine ⟨_, rfl, ?_⟩
 replace BK318 := xkb BK318 hb
 replace BK319 := xkb BK319 hb
 replace BK320 := xkb BK320 hb
 replace HB := xA (below_step (xB3 GE318.out GE319.out GE320.out HB.out) hb)
 (try clear hb); (try clear hb2); (try clear hk); (try clear hi)
 refine hK.out _ _ ⟨(blk_cell BK318.out 0).trans rfl, (blk_cell BK318.out 1).trans rfl, (blk_cell BK318.out 2).trans rfl, (blk_cell BK318.out 3).trans rfl, (blk_cell BK318.out 4).trans rfl, (blk_cell BK318.out 5).trans rfl, (blk_cell BK319.out 0).trans rfl, (blk_cell BK319.out 1).trans rfl⟩ (fun hHeld => ?_)
 clear hK K
 refine xN ?_
 refine xU 6 13 x6a9 (fun K hK => ?_)
 refine xY Try.func253 #[.agg #[.int .i64 a0_4, .bool a0_5], .int .i64 t321] ?_
 with_reducible refine (impl_Word_fit.calls a0_4 a0_5 t321 t322 _ A5.out).mono ?_
 rintro e w11 ⟨rfl, hb⟩
 refine ⟨_, rfl, ?_⟩
 replace BK318 := xkb BK318 hb
 replace BK319 := xkb BK319 hb
 replace BK320 := xkb BK320 hb
 replace HB := xA (below_step (xB3 GE318.out GE319.out GE320.out HB.out) hb)
 (try clear hb); (try clear hb2); (try clear hk); (try clear hi)
 refine hK.out _ _ ⟨(blk_cell BK318.out 0).trans rfl, (blk_cell BK318.out 1).trans rfl, (blk_cell BK318.out 2).trans rfl, (blk_cell BK318.out 3).trans rfl, (blk_cell BK318.out 4).trans rfl, (blk_cell BK318.out 5).trans rfl, (blk_cell BK319.out 0).trans rfl, (blk_cell BK319.out 1).trans rfl⟩ (fun hHeld => ?_)
 clear hK K
 refine xN ?_
 refine xP 9 16 x6a10 ?_
 refine one_ (i := 10) (N := none) x6a11 rfl rfl (one_of HT_.out (by kernel_rfl)) (by decide) (fun K hK => ?_)
 have hs12 : w11.cell? ⟨gb320, 0, none⟩ = some (.int .i64 0) := (blk_cell BK320.out 0).trans rfl
 have hfs12 := blk_frozen BK320.out 0
 have hns12_0 := NB318_320.out
 have hns12_1 := NB319_320.out
 have hms12_0 := NB320_318.out
 have hms12_1 := NB320_319.out
 have hs13 : w11.cell? ⟨gb320, 1, none⟩ = some (.int .i64 0) := (blk_cell BK320.out 1).trans rfl
 have hfs13 := blk_frozen BK320.out 1
 have hns13_0 := NB318_320.out
 have hns13_1 := NB319_320.out
 have hms13_0 := NB320_318.out
 have hms13_1 := NB320_319.out
 refine skip_ (w1 := ?_) (by rfl) rfl ?_ ?_
 rotate_left
 ·go_simp
  rfl
 refine hK.out _ _ ⟨(xCf1 NB318_320.out hHeld.1), (xCf1 NB318_320.out hHeld.2.1), (xCf1 NB318_320.out hHeld.2.2.1), (xCf1 NB318_320.out hHeld.2.2.2.1), (xCf1 NB318_320.out hHeld.2.2.2.2.1), (xCf1 NB318_320.out hHeld.2.2.2.2.2.1), (xCf1 NB319_320.out hHeld.2.2.2.2.2.2.1), (xCf1 NB319_320.out hHeld.2.2.2.2.2.2.2)⟩ (fun hHeld => ?_)
 clear hK K
 refine xDn ?_
 try go_wp2
 refine bodyPost_ret (results_cell_row rfl _ _ gb320 180 #[.int .i64 t322, .int .i64 a1_0] (0, 0) _ rfl (xPt0 BK320.out) Try.underlying180 rfl (by kernel_rfl)) rfl ?_
 exact ⟨xr, xB3 GE318.out GE319.out GE320.out HB.out⟩

/-! ### impl_RunSecond: function 138 -/
mutual
def impl_RunSecond.j0 : Nat → Int → Int → List Int → Bool → Int → Int → Int → Int → Int → Bool → Option (List Int × Bool)
 | 0, _, _, _, _, _, _, _, _, _, _ => none
 | k + 1, x1, x2, x3, x23, x324000, x324001, x324002, x324003, x324004, x324005 => if x23 = true then (some (([] : List Int), false)) else (impl_RunSecond.l0 k (([] : List Int)) x3 (x3.length : Int) 0 x324000 x324001 x324002 x324003 x324004 x324005 x1 x2)
def impl_RunSecond.l0 : Nat → List Int → List Int → Int → Int → Int → Int → Int → Int → Int → Bool → Int → Int → Option (List Int × Bool)
 | 0, _, _, _, _, _, _, _, _, _, _, _, _ => none
 | k + 1, x10, x28, x29, x30, x324000, x324001, x324002, x324003, x324004, x324005, x330000, x330001 => if x30 < x29 then (if 0 ≤ x30 then (if x30 < (x28.length : Int) then ((impl_Second_step.f k x324000 x324001 x324002 x324003 x324004 x324005 x330000 x330001 (rd x28 x30)).bind fun bt331 => (if x10.length < 17592186044416 then (impl_RunSecond.l0 k (x10 ++ [bt331.1]) x28 x29 (wrap64 (x30 + 1)) x324000 x324001 x324002 x324003 x324004 x324005 bt331.1 bt331.2) else (none))) else (none)) else (none)) else (some (x10, true))
end
def impl_RunSecond.f (k : Nat) (a0_0 : Int) (a0_1 : Int) (a0_2 : Int) (a0_3 : Int) (a0_4 : Int) (a0_5 : Bool) (a1 : Int) (a2 : Int) (l3 : List Int) : Option (List Int × Bool) := (impl_Second_isAt.f a0_0 a0_1 a0_2 a0_3 a0_4 a0_5 a1 a2).bind fun t324 => (if t324 = true then ((impl_isSignal.f k l3).bind fun t325 => (impl_RunSecond.j0 k a1 a2 l3 (!t325) a0_0 a0_1 a0_2 a0_3 a0_4 a0_5)) else (impl_RunSecond.j0 k a1 a2 l3 true a0_0 a0_1 a0_2 a0_3 a0_4 a0_5))
theorem impl_RunSecond.mono_l : ∀ k, (∀ y0 y1 y2 y3 y4 y5 y6 y7 y8 y9, LeO (impl_RunSecond.j0 k y0 y1 y2 y3 y4 y5 y6 y7 y8 y9) (impl_RunSecond.j0 (k + 1) y0 y1 y2 y3 y4 y5 y6 y7 y8 y9)) ∧ (∀ y0 y1 y2 y3 y4 y5 y6 y7 y8 y9 y10 y11, LeO (impl_RunSecond.l0 k y0 y1 y2 y3 y4 y5 y6 y7 y8 y9 y10 y11) (impl_RunSecond.l0 (k + 1) y0 y1 y2 y3 y4 y5 y6 y7 y8 y9 y10 y11))
 | 0 => ⟨fun _ _ _ _ _ _ _ _ _ _ r h => by simp [impl_RunSecond.j0] at h, fun _ _ _ _ _ _ _ _ _ _ _ _ r h => by simp [impl_RunSecond.l0] at h⟩
 | k + 1 => by
  obtain ⟨ih0, ih1⟩ := impl_RunSecond.mono_l k
  have m0 := @impl_Second_step.mono
  have m1 := @impl_isSignal.mono
  refine ⟨?_, ?_⟩ <;> intros
  ·unfold impl_RunSecond.j0; exact xM
  ·unfold impl_RunSecond.l0; exact xM
theorem impl_RunSecond.mono : ∀ a0 a1 a2 a3 a4 a5 a6 a7 a8 k, LeO (impl_RunSecond.f k a0 a1 a2 a3 a4 a5 a6 a7 a8) (impl_RunSecond.f (k + 1) a0 a1 a2 a3 a4 a5 a6 a7 a8) := by
 intro a0 a1 a2 a3 a4 a5 a6 a7 a8 k
 obtain ⟨ih0, ih1⟩ := impl_RunSecond.mono_l k
 have m0 := @impl_Second_step.mono
 have m1 := @impl_isSignal.mono
 unfold impl_RunSecond.f
 exact xM
set_option maxHeartbeats 200000000 in
set_option maxRecDepth 100000 in
theorem impl_RunSecond.calls (k : Nat) (a0_0 : Int) (a0_1 : Int) (a0_2 : Int) (a0_3 : Int) (a0_4 : Int) (a0_5 : Bool) (a1 : Int) (a2 : Int) (A3 : Option Addr) (c3 : Nat) (l3 : List Int) (r1 : List Int) (r2 : Bool) (w : World) (hr3 : Kd.C (Kd.int .i64) w A3 l3.length l3) (hc3 : l3.length ≤ c3) (h : impl_RunSecond.f k a0_0 a0_1 a0_2 a0_3 a0_4 a0_5 a1 a2 l3 = some (r1, r2)) :
  Calls Try.prog 138 #[.agg #[.int .i64 a0_0, .int .i64 a0_1, .int .i64 a0_2, .int .i64 a0_3, .int .i64 a0_4, .bool a0_5], .int .i64 a1, .int .i64 a2, .slice A3 l3.length c3] w fun e w' => ∃ v0_ : Value, e = .returned (.tuple #[v0_, .bool r2]) ∧ Kd.R (Kd.int .i64) 3 w' w.heap.size (fun _ => True) v0_ r1 ∧ Below w.heap.size w w' := by
 have hu91 := Try.underlying91
 have hu180 := Try.underlying180
 have HR3 := xA hr3
 have HC3 := xA hc3
 clear hr3 hc3
 have HB := xA (Below.refl w.heap.size w)
 have H : ((impl_Second_isAt.f a0_0 a0_1 a0_2 a0_3 a0_4 a0_5 a1 a2).bind fun t324 => (if t324 = true then ((impl_isSignal.f k l3).bind fun t325 => (impl_RunSecond.j0 k a1 a2 l3 (!t325) a0_0 a0_1 a0_2 a0_3 a0_4 a0_5)) else (impl_RunSecond.j0 k a1 a2 l3 true a0_0 a0_1 a0_2 a0_3 a0_4 a0_5))) = some (r1, r2) := h
 clear h
 have HC5 := xA H
 clear H
 go_enter Try.func138, Try.ntmps138
 go_upto_region 1 with (first | (refine xg 4 rfl ?_; refine xV 4 #[.int .i64 a0_0, .int .i64 a0_1, .int .i64 a0_2, .int .i64 a0_3, .int .i64 a0_4, .bool a0_5] 91 ?_; intro gb323 hg w6 hbox hb; have BK323 := xA (hbox); have GW323 := xgw hg (below_size (xB HB.out)); have GE323 := GW323; replace HB := xA (below_step (xB HB.out) hb); clear hb hbox hg))
 (try simp only [Act.put, List.setIfInBounds_toArray, List.set_cons_zero, List.set_cons_succ])
 go_cut [23] from 14 to 14 (fun v23 wc => ∃ (kq : Nat) (x23_4 : Bool), v23 = .bool x23_4 ∧ Aside0 (impl_RunSecond.j0 kq a1 a2 l3 x23_4 a0_0 a0_1 a0_2 a0_3 a0_4 a0_5 = some (r1, r2)) ∧ Aside0 (kq ≤ k) ∧ Aside0 (wc.heap[gb323]? = some (.cells #[.int .i64 a0_0, .int .i64 a0_1, .int .i64 a0_2, .int .i64 a0_3, .int .i64 a0_4, .bool a0_5] 91 (0, 0))) ∧ Aside0 (Below w.heap.size w wc))
 case first => as_aux_lemma =>
  have H := HC5.out
  clear HC5
  obtain ⟨t324, A7, H⟩ := xO H
  (try dsimp only at H)
  by_cases c8 : t324 = true
  rotate_left
  ·replace c8 := Bool.eq_false_iff.mpr c8
   subst c8
   rw [if_neg (show ¬ (false = true) by decide)] at H
   have H' := xA H
   clear H
   replace hz323 := blk_cell BK323.out; replace hy323 := blk_frozen BK323.out
   go_wp2_with (first | (refine xG (some 17) Try.func336 #[.agg #[.int .i64 a0_0, .int .i64 a0_1, .int .i64 a0_2, .int .i64 a0_3, .int .i64 a0_4, .bool a0_5], .int .i64 a1, .int .i64 a2] ?_; (with_reducible refine (impl_Second_isAt.calls a0_0 a0_1 a0_2 a0_3 a0_4 a0_5 a1 a2 false _ A7.out).mono ?_); rintro e w13 ⟨rfl, hb⟩; refine ⟨_, rfl, ?_⟩; replace BK323 := xkb BK323 hb; replace HB := xA (below_step (xB1 GE323.out HB.out) hb); (try clear hb)))
   go_meet
   case rel => exact ⟨_, (true), xs, H', ⟨by first | omega | exact Nat.le_refl _⟩, ⟨xK BK323.out⟩, ⟨xB1 GE323.out HB.out⟩⟩
  subst c8
  rw [if_pos rfl] at H
  obtain ⟨t325, A9, H⟩ := xO H
  (try dsimp only at H)
  have H' := xA H
  clear H
  replace hz323 := blk_cell BK323.out; replace hy323 := blk_frozen BK323.out
  go_wp2_with (first | (refine xG (some 17) Try.func336 #[.agg #[.int .i64 a0_0, .int .i64 a0_1, .int .i64 a0_2, .int .i64 a0_3, .int .i64 a0_4, .bool a0_5], .int .i64 a1, .int .i64 a2] ?_; (with_reducible refine (impl_Second_isAt.calls a0_0 a0_1 a0_2 a0_3 a0_4 a0_5 a1 a2 true _ A7.out).mono ?_); rintro e w11 ⟨rfl, hb⟩; refine ⟨_, rfl, ?_⟩; replace BK323 := xkb BK323 hb; replace HB := xA (below_step (xB1 GE323.out HB.out) hb); (try clear hb)) | (go_at_call 233; (with_reducible refine (impl_isSignal.calls k _ _ l3 t325 _ ?side1 ?side2 A9.out).mono ?_); (case side1 => exact xC (Kd.C_below HR3.out HB.out)); (case side2 => exact HC3.out); rintro e w' ⟨rfl, ⟨nd, rfl⟩⟩))
  go_meet
  case rel => exact ⟨_, (!t325), xs, H', ⟨by first | omega | exact Nat.le_refl _⟩, ⟨xK BK323.out⟩, ⟨xB1 GE323.out HB.out⟩⟩
 case rest => as_aux_lemma =>
  clear HC5
  try clear c3
  obtain ⟨kq, x23_4, rfl, HA, HJ4, BK323, HB⟩ := hcut
  cases kq with
  | zero => exact absurd HA.out (by simp [impl_RunSecond.j0])
  | succ kj4 =>
   have H := HA.out
   clear HA
   simp only [impl_RunSecond.j0] at H
   by_cases c14 : x23_4 = true
   ·subst c14
    rw [if_pos rfl] at H
    simp only [Option.some.injEq, Prod.mk.injEq] at H
    obtain ⟨rfl, rfl⟩ := H
    go_wp2
    go_ret2
    exact ⟨_, xr, by first | exact Kd.R_nil _ _ _ _ _ | exact Kd.N_nil _ _ _ _ _ | exact Kd.V_nil _ _ _ _ _ | exact Kd.Q_nil _ _ _ _ _ | exact Kd.S_nil _ _ _ _ _, xB1 GE323.out HB.out⟩
   replace c14 := Bool.eq_false_iff.mpr c14
   subst c14
   rw [if_neg (show ¬ (false = true) by decide)] at H
   obtain ⟨y326, hy326⟩ : ∃ y_ : List Int, y_ = (([] : List Int)) := ⟨_, rfl⟩
   replace H : (impl_RunSecond.l0 kj4 y326 l3 (l3.length : Int) 0 a0_0 a0_1 a0_2 a0_3 a0_4 a0_5 a1 a2) = some (r1, r2) := by first | (rw [hy326]; with_reducible exact H) | (have H2_ := (Option.bind_some _ _).symm.trans H; rw [hy326]; with_reducible exact H2_) | (have H2_ := (Option.bind_some _ _).symm.trans H; with_reducible exact H2_) | with_reducible exact H | (rw [hy326]; exact H) | exact H
   have Ny326 := xA hy326
   clear hy326
   have H' := xA H
   clear H
   go_wp2_with (first | ((with_reducible refine gate_dst (N := 24) rfl ?_); refine Kd.R_lit (Kd.int .i64) _ 3 ?hg (N := 24) ?hd (xs := ([] : List Int)) (inner := []) (ok := fun _ => True) (okp := fun _ => True) ?hr ?hp (fun _ hk => hk) trivial (Below.refl _ _) (Nat.le_refl _) (by simp) ?_; (case hd => rfl); (case hg => rfl); (case hr => first | (go_simp; done) | (go_simp; rfl)); (case hp => exact (Reps.none _ _)); intro v327 w15 ho16 hb hg_ hnew_; clear hg_ hnew_; (first | rw [← Ny326.out] at ho16 | (simp only [Int.reduceToNat] at ho16; rw [← Ny326.out] at ho16)); have HO328 := xA (Kd.R_lower ho16 (below_size (xB1 GE323.out HB.out))); replace BK323 := xkb BK323 hb; replace HB := xA (below_step (xB1 GE323.out HB.out) hb); clear hb ho16) | (refine xg 11 rfl ?_; refine xV 11 #[.int .i64 0, .int .i64 0] 180 ?_; intro gb329 hg w17 hbox hb; replace HO328 := xA (Kd.R_below (xR HO328.out) hb); have BK329 := xA (hbox); have GW329 := xgw hg (below_size (xB1 GE323.out HB.out)); have GE329 := GW329; replace HB := xA (below_step (xB1 GE323.out HB.out) hb); have NB323_329 := xnl hg BK323; have NB329_323 := xng hg BK323; replace BK323 := xkb BK323 hb; clear hb hbox hg; have hnb18 := NB329_323.out; have hnc18 := NB323_329.out; obtain ⟨hcz19_0, hcz19_1, hfz19_0, hfz19_1⟩ := xZ2 BK329.out))
   go_loopg [10, 30] kj4 (fun kq v10 v30 w' => ∃ (x10_2 : List Int) (x30_2 : Int) (x330000_2 : Int) (x330001_2 : Int), v30 = .int .i64 x30_2 ∧ Aside0 (impl_RunSecond.l0 kq x10_2 l3 (l3.length : Int) x30_2 a0_0 a0_1 a0_2 a0_3 a0_4 a0_5 x330000_2 x330001_2 = some (r1, r2)) ∧ Aside0 (kq ≤ kj4) ∧ Aside0 (Kd.R (Kd.int .i64) 3 w' w.heap.size (fun _ => True) v10 x10_2) ∧ Aside0 (w'.heap[gb323]? = some (.cells #[.int .i64 a0_0, .int .i64 a0_1, .int .i64 a0_2, .int .i64 a0_3, .int .i64 a0_4, .bool a0_5] 91 (0, 0))) ∧ Aside0 (w'.heap[gb329]? = some (.cells #[.int .i64 x330000_2, .int .i64 x330001_2] 180 (0, 0))) ∧ Aside0 (Below w.heap.size w w'))
   case atStart => exact ⟨(y326), (0), (a1), (a2), xs, H', ⟨Nat.le_refl _⟩, ⟨by (with_reducible repeat (first | apply Kd.R_alloc | apply Kd.R_drewN | apply Kd.R_drew)); exact Kd.R_mono (Kd.R_far (p := ⟨gb329, 1, none⟩) (Kd.R_far (p := ⟨gb329, 0, none⟩) (Kd.R_types HO328.out BK329.out (by decide)) (fun _ hk => hk.2) (.int .i64 a1)) (fun _ hk => hk.2) (.int .i64 a2)) (fun _ hk => trivial)⟩, ⟨by (with_reducible repeat (first | refine blk_drewN ?_ _ | refine blk_drew ?_ | refine blk_alloc ?_ _)); refine blk_far ?_ NB323_329.out _; (with_reducible repeat (first | refine blk_drewN ?_ _ | refine blk_drew ?_ | refine blk_alloc ?_ _)); refine blk_far ?_ NB323_329.out _; (with_reducible repeat (first | refine blk_drewN ?_ _ | refine blk_drew ?_ | refine blk_alloc ?_ _)); exact BK323.out⟩, ⟨by (with_reducible repeat (first | refine blk_drewN ?_ _ | refine blk_drew ?_ | refine blk_alloc ?_ _)); refine blk_put (cs := #[.int .i64 a1, .int .i64 0]) ?_ 1 _ rfl; (with_reducible repeat (first | refine blk_drewN ?_ _ | refine blk_drew ?_ | refine blk_alloc ?_ _)); refine blk_put (cs := #[.int .i64 0, .int .i64 0]) ?_ 0 _ rfl; (with_reducible repeat (first | refine blk_drewN ?_ _ | refine blk_drew ?_ | refine blk_alloc ?_ _)); exact BK329.out⟩, ⟨xB2 GE323.out GE329.out HB.out⟩⟩
   case round =>
    clear H'
    try clear c14
    try clear hcz19_0
    try clear hcz19_1
    try clear hfz19_0
    try clear hfz19_1
    obtain ⟨x10_2, x30_2, x330000_2, x330001_2, rfl, HA, HK2, HO_10, BK323, BK329, HB⟩ := hrel
    cases gk with
    | zero => exact absurd HA.out (by simp [impl_RunSecond.l0])
    | succ k2 =>
     have H := HA.out
     clear HA
     simp only [impl_RunSecond.l0] at H
     by_cases c20 : x30_2 < (l3.length : Int)
     rotate_left
     ·rw [if_neg c20] at H
      have c20b0 : decide (x30_2 < (l3.length : Int)) = false := decide_eq_false c20
      clear c20
      simp only [Option.some.injEq, Prod.mk.injEq] at H
      obtain ⟨rfl, rfl⟩ := H
      go_wp2
      go_ret2
      exact ⟨_, xr, xR HO_10.out, xB2 GE323.out GE329.out HB.out⟩

     rw [if_pos c20] at H
     have c20b0 : decide (x30_2 < (l3.length : Int)) = true := decide_eq_true c20
     clear c20
     by_cases c21 : 0 ≤ x30_2
     rotate_left
     ·rw [if_neg c21] at H
      exact absurd H (by simp)
     rw [if_pos c21] at H
     have c21b0 : decide (0 ≤ x30_2) = true := decide_eq_true c21
     clear c21
     by_cases c22 : x30_2 < (l3.length : Int)
     rotate_left
     ·rw [if_neg c22] at H
      exact absurd H (by simp)
     rw [if_pos c22] at H
     have c22b0 : decide (x30_2 < (l3.length : Int)) = true := decide_eq_true c22
     clear c22
     replace H := Option.bind_eq_some_iff.mp H
     obtain ⟨⟨t331, t332⟩, A230, H⟩ := H
     (try dsimp only at H)
     have A23 := xA A230
     clear A230
     by_cases c24 : x10_2.length < 17592186044416
     rotate_left
     ·rw [if_neg c24] at H
      exact absurd H (by simp)
     rw [if_pos c24] at H
     have LMc24 := xA c24
     clear c24
     obtain ⟨y333, hy333⟩ : ∃ y_ : List Int, y_ = (x10_2 ++ [t331]) := ⟨_, rfl⟩
     replace H : (impl_RunSecond.l0 k2 y333 l3 (l3.length : Int) (wrap64 (x30_2 + 1)) a0_0 a0_1 a0_2 a0_3 a0_4 a0_5 t331 t332) = some (r1, r2) := by first | (rw [hy333]; with_reducible exact H) | (have H2_ := (Option.bind_some _ _).symm.trans H; rw [hy333]; with_reducible exact H2_) | (have H2_ := (Option.bind_some _ _).symm.trans H; with_reducible exact H2_) | with_reducible exact H | (rw [hy333]; exact H) | exact H
     have Ny333 := xA hy333
     clear hy333
     have H' := xA H
     clear H
     have p330 : 0 ≤ (x30_2 : Int) := of_decide_eq_true (by first | (with_reducible assumption) | assumption)
     have q330 : x30_2 < (l3.length : Int) := of_decide_eq_true (by first | (with_reducible assumption) | assumption)
     obtain ⟨ad330, e330, hx330_0⟩ := Kd.at_int HR3.out x30_2 p330 q330
     cases e330
     replace hx330_0 := (HB.out.cell (World.block_lt_of_cell? w _ hx330_0)).trans hx330_0
     replace p330 := eq_true p330
     replace q330 := eq_true q330
     have hnb25 := NB323_329.out
     have hnc25 := NB329_323.out
     replace hz323 := blk_cell BK323.out; replace hy323 := blk_frozen BK323.out
     replace hz329 := blk_cell BK329.out; replace hy329 := blk_frozen BK329.out
     go_wp2_with (first | (refine xG (some 37) Try.func337 #[.agg #[.int .i64 a0_0, .int .i64 a0_1, .int .i64 a0_2, .int .i64 a0_3, .int .i64 a0_4, .bool a0_5], .agg #[.int .i64 x330000_2, .int .i64 x330001_2], .int .i64 (rd l3 x30_2)] ?_; (with_reducible refine (impl_Second_step.calls k2 a0_0 a0_1 a0_2 a0_3 a0_4 a0_5 x330000_2 x330001_2 (rd l3 x30_2) t331 t332 _ A23.out).mono ?_); rintro e w28 ⟨rfl, hb⟩; refine ⟨_, rfl, ?_⟩; replace HO_10 := xA (Kd.R_below (xR HO_10.out) hb); replace BK323 := xkb BK323 hb; replace BK329 := xkb BK329 hb; replace HB := xA (below_step (xB2 GE323.out GE329.out HB.out) hb); (try clear hb); replace hz329 := blk_cell BK329.out; replace hy329 := blk_frozen BK329.out) | ((with_reducible refine gate_builtin (b := .append) (xs := #[.tmp 38, .tmp 41]) rfl ?_); at_builtin; refine Kd.R_append (Kd.int .i64) (w0 := w) w.heap.size rfl (.tmp 38) (.tmp 41) 24 3 (.int .i64 0) 8 rfl Try.underlying24 info3 rfl (by decide) (by omega) u10 x10_2 t331 [.int .i64 t331] (fun _ => True) (fun _ => False) rfl (by first | (go_simp; done) | (go_simp; rfl)) ?aP (fun _ hk => hk.elim) ?aF ?aO ?aB ?aS ?aL ?_; (case aP => exact rfl); (case aB => exact (xB2 GE323.out GE329.out HB.out)); (case aF => exact (fun _ _ => trivial)); (case aO => exact (by (with_reducible repeat (first | apply Kd.R_alloc | apply Kd.R_drewN | apply Kd.R_drew)); exact Kd.R_mono (Kd.R_far (p := ⟨gb329, 1, none⟩) (Kd.R_far (p := ⟨gb329, 0, none⟩) (Kd.R_types HO_10.out BK329.out (by decide)) (fun _ hk => hk.2) (.int .i64 t331)) (fun _ hk => hk.2) (.int .i64 t332)) (fun _ hk => trivial))); (case aS => exact (below_size (xB2 GE323.out GE329.out HB.out))); (case aL => have := LMc24.out; omega); intro v334 w30 ho hb hg hat; rw [← Ny333.out] at ho; replace BK323 := xA (blk_grown (xF1 NB323_329.out BK323.out) hg (Kd.R_ne HO_10.out BK323.out (by decide))); replace BK329 := xA (blk_grown (g := gb329) (o := .cells #[.int .i64 t331, .int .i64 t332] 180 (0, 0)) (xPt0 BK329.out) hg (Kd.R_ne HO_10.out BK329.out (by decide))); replace HB := xA (hb); have HO335 := xA (ho); clear HO_10; clear ho hb hg hat))
     go_roundg k2
     case measure => have := HJ4.out; have := HK2.out; omega
     case rel => exact ⟨(y333), (wrap64 (x30_2 + 1)), (t331), (t332), xs, H', ⟨by have := HJ4.out; have := HK2.out; omega⟩, ⟨xR HO335.out⟩, ⟨xK BK323.out⟩, ⟨xK BK329.out⟩, ⟨xB2 GE323.out GE329.out HB.out⟩⟩
/-! ### spec_l1All: function 373 -/
def spec_l1All.l0 : Nat → Int → Int → List Int → Int → Int → Option (Bool)
 | 0, _, _, _, _, _ => none
 | k + 1, x1, x2, x9, x10, x11 => if x11 < x10 then (if 0 ≤ x11 then (if x11 < (x9.length : Int) then ((spec_l1In.f (rd x9 x11) x1 x2).bind fun t337 => (if t337 = true then (spec_l1All.l0 k x1 x2 x9 x10 (wrap64 (x11 + 1))) else (some false))) else (none)) else (none)) else (some true)
def spec_l1All.f (k : Nat) (l0 : List Int) (a1 : Int) (a2 : Int) : Option (Bool) := spec_l1All.l0 k a1 a2 l0 (l0.length : Int) 0
theorem spec_l1All.mono_l : ∀ k, (∀ y0 y1 y2 y3 y4, LeO (spec_l1All.l0 k y0 y1 y2 y3 y4) (spec_l1All.l0 (k + 1) y0 y1 y2 y3 y4))
 | 0 => fun _ _ _ _ _ r h => by simp [spec_l1All.l0] at h
 | k + 1 => by
  have ih0 := spec_l1All.mono_l k
  intros
  unfold spec_l1All.l0
  exact xM
theorem spec_l1All.mono : ∀ a0 a1 a2 k, LeO (spec_l1All.f k a0 a1 a2) (spec_l1All.f (k + 1) a0 a1 a2) := by
 intro a0 a1 a2 k
 have ih0 := spec_l1All.mono_l k
 unfold spec_l1All.f
 exact xM
set_option maxHeartbeats 200000000 in
set_option maxRecDepth 100000 in
theorem spec_l1All.calls (k : Nat) (A0 : Option Addr) (c0 : Nat) (l0 : List Int) (a1 : Int) (a2 : Int) (r : Bool) (w : World) (hr0 : Kd.C (Kd.int .i64) w A0 l0.length l0) (hc0 : l0.length ≤ c0) (h : spec_l1All.f k l0 a1 a2 = some r) :
  Calls Try.prog 373 #[.slice A0 l0.length c0, .int .i64 a1, .int .i64 a2] w fun e w' => e = .returned (.bool r) ∧ Drawn0 w w' := by
 have HR0 := xA hr0
 have HC0 := xA hc0
 clear hr0 hc0
 have H : (spec_l1All.l0 k a1 a2 l0 (l0.length : Int) 0) = some r := h
 clear h
 have H' := xA H
 clear H
 go_enter Try.func373, Try.ntmps373
 go_wp2
 go_loopg [11] k (fun kq v11 w' => ∃ (x11_1 : Int), v11 = .int .i64 x11_1 ∧ Aside0 (spec_l1All.l0 kq a1 a2 l0 (l0.length : Int) x11_1 = some r) ∧ Aside0 (kq ≤ k) ∧ Drawn0 w w')
 case atStart => exact ⟨(0), xs, H', ⟨Nat.le_refl _⟩, by repeat (first | exact Drawn0.refl _ | apply Drawn0.step)⟩
 case round =>
  clear H'
  obtain ⟨x11_1, rfl, HA, HK1, ⟨m1, rfl⟩⟩ := hrel
  cases gk with
  | zero => exact absurd HA.out (by simp [spec_l1All.l0])
  | succ k1 =>
   have H := HA.out
   clear HA
   simp only [spec_l1All.l0] at H
   by_cases c4 : x11_1 < (l0.length : Int)
   rotate_left
   ·rw [if_neg c4] at H
    have c4b0 : decide (x11_1 < (l0.length : Int)) = false := decide_eq_false c4
    clear c4
    obtain rfl := Option.some.inj H
    go_wp2
    go_ret
    exact ⟨by first | rfl | (simp; done) | (simp [*]; done), by repeat (first | exact Drawn0.refl _ | apply Drawn0.step)⟩

   rw [if_pos c4] at H
   have c4b0 : decide (x11_1 < (l0.length : Int)) = true := decide_eq_true c4
   clear c4
   by_cases c5 : 0 ≤ x11_1
   rotate_left
   ·rw [if_neg c5] at H
    exact absurd H (by simp)
   rw [if_pos c5] at H
   have c5b0 : decide (0 ≤ x11_1) = true := decide_eq_true c5
   clear c5
   by_cases c6 : x11_1 < (l0.length : Int)
   rotate_left
   ·rw [if_neg c6] at H
    exact absurd H (by simp)
   rw [if_pos c6] at H
   have c6b0 : decide (x11_1 < (l0.length : Int)) = true := decide_eq_true c6
   clear c6
   obtain ⟨t337, A7, H⟩ := xO H
   (try dsimp only at H)
   by_cases c8 : t337 = true
   rotate_left
   ·replace c8 := Bool.eq_false_iff.mpr c8
    subst c8
    rw [if_neg (show ¬ (false = true) by decide)] at H
    obtain rfl := Option.some.inj H
    have p336 : 0 ≤ (x11_1 : Int) := of_decide_eq_true (by first | (with_reducible assumption) | assumption)
    have q336 : x11_1 < (l0.length : Int) := of_decide_eq_true (by first | (with_reducible assumption) | assumption)
    obtain ⟨ad336, e336, hx336_0⟩ := Kd.at_int HR0.out x11_1 p336 q336
    cases e336
    replace p336 := eq_true p336
    replace q336 := eq_true q336
    go_wp2_with (first | (refine xG (some 18) Try.func230 #[.int .i64 (rd l0 x11_1), .int .i64 a1, .int .i64 a2] ?_; (with_reducible refine (spec_l1In.calls (rd l0 x11_1) a1 a2 false _ A7.out).mono ?_); rintro e w' ⟨rfl, ⟨nd, rfl⟩⟩; refine ⟨_, rfl, ?_⟩))
    go_ret
    exact ⟨by first | rfl | (simp; done) | (simp [*]; done), by repeat (first | exact Drawn0.refl _ | apply Drawn0.step)⟩
   subst c8
   rw [if_pos rfl] at H
   have H' := xA H
   clear H
   have p336 : 0 ≤ (x11_1 : Int) := of_decide_eq_true (by first | (with_reducible assumption) | assumption)
   have q336 : x11_1 < (l0.length : Int) := of_decide_eq_true (by first | (with_reducible assumption) | assumption)
   obtain ⟨ad336, e336, hx336_0⟩ := Kd.at_int HR0.out x11_1 p336 q336
   cases e336
   replace p336 := eq_true p336
   replace q336 := eq_true q336
   go_wp2_with (first | (refine xG (some 18) Try.func230 #[.int .i64 (rd l0 x11_1), .int .i64 a1, .int .i64 a2] ?_; (with_reducible refine (spec_l1In.calls (rd l0 x11_1) a1 a2 true _ A7.out).mono ?_); rintro e w' ⟨rfl, ⟨nd, rfl⟩⟩; refine ⟨_, rfl, ?_⟩))
   go_roundg k1
   case measure => have := HK1.out; omega
   case rel => exact ⟨(wrap64 (x11_1 + 1)), xs, H', ⟨by have := HK1.out; omega⟩, by repeat (first | exact Drawn0.refl _ | apply Drawn0.step)⟩
end Go.Proofs.Ytjplcongellcmaa.PFnPairsRun
