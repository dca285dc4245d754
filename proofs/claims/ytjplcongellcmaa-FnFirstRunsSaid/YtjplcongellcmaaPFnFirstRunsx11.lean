/- What each Go function that the statement FnFirstRuns reaches answers, proved call by call. No condition beyond those that the theorems print. (Written by wip/tools/xprint.py of this repo, over the kit's print.) -/
import Derived.Test.YtjplcongellcmaaPFnFirstRunsx0
import Derived.Test.YtjplcongellcmaaPFnFirstRunsx1
import Derived.Test.YtjplcongellcmaaPFnFirstRunsx2
import Derived.Test.YtjplcongellcmaaPFnFirstRunsx5
import Derived.Test.YtjplcongellcmaaPFnFirstRunsx6
import Derived.Test.YtjplcongellcmaaPFnFirstRunsx9
import Derived.Test.YtjplcongellcmaaPFnFirstRunsx10
namespace Go.Proofs.Ytjplcongellcmaa.PFnFirstRuns
open Go.RowKit Go.Proofs.YtjplcongellcmaaW.PrintWords Go.Proofs.YtjplcongellcmaaW.PrintLast Go.Proofs.YtjplcongellcmaaW.PrintMore
attribute [local go_sem] max2_int min2_int max_two min_two max_three min_three max_four min_four   -- for this text's walks alone
set_option linter.unusedVariables false
set_option linter.unusedSimpArgs false
def x11a0 : Array Bool := #[Zz,Zz,Zz,Zz,Zz,Zz,Zz,Zz,Zz,Zz,Zz,Zz]
def x11a1 : Array Bool := #[Yy,Zz,Zz,Zz,Zz,Zz,Zz,Zz,Zz,Zz,Zz,Zz]
def x11a2 : Array Bool := #[Yy,Yy,Zz,Zz,Zz,Zz,Zz,Zz,Zz,Zz,Zz,Zz]
def x11a3 : Array Bool := #[Yy,Yy,Yy,Zz,Zz,Zz,Zz,Zz,Zz,Zz,Zz,Zz]
def x11a4 : Array Bool := #[Yy,Yy,Yy,Yy,Zz,Zz,Zz,Zz,Zz,Zz,Zz,Zz]
def x11a5 : Array Bool := #[Yy,Yy,Yy,Yy,Yy,Zz,Zz,Zz,Zz,Zz,Zz,Zz]
def x11a6 : Array Bool := #[Yy,Yy,Yy,Yy,Yy,Yy,Zz,Zz,Zz,Zz,Zz,Zz]
def x11a7 : Array Bool := #[Yy,Yy,Yy,Yy,Yy,Yy,Yy,Zz,Zz,Zz,Zz,Zz]
def x11a8 : Array Bool := #[Yy,Yy,Yy,Yy,Yy,Yy,Yy,Yy,Zz,Zz,Zz,Zz]
def x11a9 : Array Bool := #[Yy,Yy,Yy,Yy,Yy,Yy,Yy,Yy,Yy,Zz,Zz,Zz]
def x11a10 : Array Bool := #[Yy,Yy,Yy,Yy,Yy,Yy,Yy,Yy,Yy,Yy,Zz,Zz]
def x11a11 : Array Bool := #[Yy,Yy,Yy,Yy,Yy,Yy,Yy,Yy,Yy,Yy,Yy,Zz]
def x11a12 : Array Bool := #[Yy,Yy,Yy,Yy,Yy,Yy,Yy,Yy,Yy,Yy,Yy,Yy]
def x11a13 : Array Bool := #[Yy,Yy,Yy,Yy,Yy,Zz,Zz,Yy,Zz,Zz,Zz,Zz]
def x11a14 : Array Bool := #[Yy,Yy,Yy,Yy,Yy,Yy,Zz,Yy,Zz,Zz,Zz,Zz]
def x11a15 : Array Bool := #[Yy,Yy,Yy,Yy,Yy,Yy,Zz,Yy,Yy,Zz,Zz,Zz]
def x11a16 : Array Bool := #[Yy,Yy,Yy,Yy,Yy,Yy,Zz,Yy,Yy,Yy,Zz,Zz]
def x11a17 : Array Bool := #[Zz,Zz,Zz,Zz,Zz,Zz,Zz,Zz]
def x11a18 : Array Bool := #[Yy,Zz,Zz,Zz,Zz,Zz,Zz,Zz]
def x11a19 : Array Bool := #[Yy,Zz,Zz,Yy,Zz,Zz,Zz,Zz]
def x11a20 : Array Bool := #[Yy,Yy,Zz,Yy,Zz,Zz,Zz,Zz]
def x11a21 : Array Bool := #[Yy,Yy,Yy,Yy,Zz,Zz,Zz,Zz]
def x11a22 : Array Bool := #[Yy,Yy,Yy,Yy,Yy,Zz,Zz,Zz]
def x11a23 : Array Bool := #[Yy,Yy,Yy,Yy,Yy,Yy,Zz,Zz]
def x11a24 : Array Bool := #[Yy,Yy,Yy,Yy,Yy,Yy,Yy,Zz]
def x11a25 : Array Bool := #[Yy,Yy,Yy,Yy,Yy,Yy,Yy,Yy]

/-! ### spec_ErrorBound: function 94 -/
def spec_ErrorBound.j0 : Nat → Bool → Int → Int → Int → Int → Bool → Option (Int × Int × Bool)
 | 0, _, _, _, _, _, _ => none
 | k + 1, x18, x413000, x413001, x413002, x413003, x413004 => if x18 = true then (some (0, 0, false)) else (if 0 ≤ x413001 then ((spec_l1Abs.f x413000).bind fun t415 => (if x413002 = 1 then ((spec_foRatio.f k (shl .i64 1 x413001) (wrap64 ((wrap64 ((shl .i64 1 x413001) - t415)) * 2))).bind fun bt416 => (some (bt416.1, bt416.2, true))) else ((spec_foRatio.f k (shl .i64 1 x413001) (wrap64 ((shl .i64 1 x413001) - t415))).bind fun bt418 => (some (bt418.1, bt418.2, true))))) else (none))
def spec_ErrorBound.f (k : Nat) (a0_0 : Int) (a0_1 : Int) (a0_2 : Int) (a0_3 : Int) (a0_4 : Bool) : Option (Int × Int × Bool) := (spec_foGood.f a0_0 a0_1 a0_2 a0_3 a0_4).bind fun t413 => (if t413 = true then ((spec_l1Abs.f a0_0).bind fun t414 => (if 0 ≤ a0_1 then (spec_ErrorBound.j0 k (decide (t414 ≥ (shl .i64 1 a0_1))) a0_0 a0_1 a0_2 a0_3 a0_4) else (none))) else (spec_ErrorBound.j0 k true a0_0 a0_1 a0_2 a0_3 a0_4))
theorem spec_ErrorBound.mono_l : ∀ k, (∀ y0 y1 y2 y3 y4 y5, LeO (spec_ErrorBound.j0 k y0 y1 y2 y3 y4 y5) (spec_ErrorBound.j0 (k + 1) y0 y1 y2 y3 y4 y5))
 | 0 => fun _ _ _ _ _ _ r h => by simp [spec_ErrorBound.j0] at h
 | k + 1 => by
  have ih0 := spec_ErrorBound.mono_l k
  have m0 := @spec_foRatio.mono
  intros
  unfold spec_ErrorBound.j0
  exact xM
theorem spec_ErrorBound.mono : ∀ a0 a1 a2 a3 a4 k, LeO (spec_ErrorBound.f k a0 a1 a2 a3 a4) (spec_ErrorBound.f (k + 1) a0 a1 a2 a3 a4) := by
 intro a0 a1 a2 a3 a4 k
 have ih0 := spec_ErrorBound.mono_l k
 have m0 := @spec_foRatio.mono
 unfold spec_ErrorBound.f
 exact xM
def spec_ErrorBound.T1 : Bool × List (List Nat × List Nat) := (true, [([], []), ([0], [0]), ([1], [1]), ([2, 1], [2]), ([3], [3]), ([4, 3], [3, 4]), ([5, 3, 3], [3, 5]), ([3], [3]), ([7, 3], [3, 7]), ([8, 3], [3, 8]), ([6, 9, 3], [3, 6, 9]), ([3, 10], [3, 10])])
def spec_ErrorBound.B1 : List Nat := [0, 1, 3, 7, 15, 31, 63, 15, 143, 399, 1023, 2047]
theorem spec_ErrorBound.tab1 : rtab .any (opsOf Try.f94 1) = spec_ErrorBound.T1 := by kernel_rfl
theorem spec_ErrorBound.bits1 : waitsOk spec_ErrorBound.T1.2 spec_ErrorBound.B1 = true := by kernel_rfl
def spec_ErrorBound.T3 : Bool × List (List Nat × List Nat) := (true, [([], []), ([0], [0]), ([1], [1]), ([], []), ([3], [3]), ([4], [4]), ([2, 5], [2, 5]), ([6, 5, 0, 1, 2, 3, 4, 5, 6], [6])])
def spec_ErrorBound.B3 : List Nat := [0, 1, 3, 0, 8, 24, 63, 127]
theorem spec_ErrorBound.tab3 : rtab .any (opsOf Try.f94 3) = spec_ErrorBound.T3 := by kernel_rfl
theorem spec_ErrorBound.bits3 : waitsOk spec_ErrorBound.T3.2 spec_ErrorBound.B3 = true := by kernel_rfl
set_option maxHeartbeats 200000000 in
set_option maxRecDepth 100000 in
theorem spec_ErrorBound.calls (k : Nat) (a0_0 : Int) (a0_1 : Int) (a0_2 : Int) (a0_3 : Int) (a0_4 : Bool) (r1 : Int) (r2 : Int) (r3 : Bool) (w : World) (h : spec_ErrorBound.f k a0_0 a0_1 a0_2 a0_3 a0_4 = some (r1, r2, r3)) :
  Calls Try.prog 94 #[.agg #[.int .i64 a0_0, .int .i64 a0_1, .int .i64 a0_2, .int .i64 a0_3, .bool a0_4]] w fun e w' => e = .returned (.tuple #[.int .i64 r1, .int .i64 r2, .bool r3]) ∧ Below w.heap.size w w' := by
 have hu62 := Try.underlying62
 have HB := xA (Below.refl w.heap.size w)
 have H : ((spec_foGood.f a0_0 a0_1 a0_2 a0_3 a0_4).bind fun t413 => (if t413 = true then ((spec_l1Abs.f a0_0).bind fun t414 => (if 0 ≤ a0_1 then (spec_ErrorBound.j0 k (decide (t414 ≥ (shl .i64 1 a0_1))) a0_0 a0_1 a0_2 a0_3 a0_4) else (none))) else (spec_ErrorBound.j0 k true a0_0 a0_1 a0_2 a0_3 a0_4))) = some (r1, r2, r3) := h
 clear h
 have HC2 := xA H
 clear H
 go_enter Try.func94, Try.ntmps94
 go_upto_region 1 with (first | (refine xg 1 rfl ?_; refine xV 1 #[.int .i64 a0_0, .int .i64 a0_1, .int .i64 a0_2, .int .i64 a0_3, .bool a0_4] 62 ?_; intro gb412 hg w3 hbox hb; have BK412 := xA (hbox); have GW412 := xgw hg (below_size (xB HB.out)); have GE412 := GW412; replace HB := xA (below_step (xB HB.out) hb); clear hb hbox hg))
 (try simp only [Act.put, List.setIfInBounds_toArray, List.set_cons_zero, List.set_cons_succ])
 go_cut [18] from 7 to 7 (fun v18 wc => ∃ (kq : Nat) (x18_1 : Bool), v18 = .bool x18_1 ∧ Aside0 (spec_ErrorBound.j0 kq x18_1 a0_0 a0_1 a0_2 a0_3 a0_4 = some (r1, r2, r3)) ∧ Aside0 (kq ≤ k) ∧ Aside0 (wc.heap[gb412]? = some (.cells #[.int .i64 a0_0, .int .i64 a0_1, .int .i64 a0_2, .int .i64 a0_3, .bool a0_4] 62 (0, 0))) ∧ Aside0 (Below w.heap.size w wc))
 case first => as_aux_lemma =>
  have H := HC2.out
  clear HC2
  obtain ⟨t413, A4, H⟩ := xO H
  (try dsimp only at H)
  by_cases c5 : t413 = true
  rotate_left
  ·replace c5 := Bool.eq_false_iff.mpr c5
   subst c5
   rw [if_neg (show ¬ (false = true) by decide)] at H
   have H' := xA H
   clear H
   try go_wp2
   replace BK412 := xA (blk_drew BK412.out)
   replace HB := xA (below_drew1 HB.out)
   refine start_ (n := 12) (S := fun w' => w'.cell? ⟨gb412, 0, none⟩ = some (.int .i64 a0_0) ∧ w'.cell? ⟨gb412, 1, none⟩ = some (.int .i64 a0_1) ∧ w'.cell? ⟨gb412, 2, none⟩ = some (.int .i64 a0_2) ∧ w'.cell? ⟨gb412, 3, none⟩ = some (.int .i64 a0_3) ∧ w'.cell? ⟨gb412, 4, none⟩ = some (.bool a0_4)) (ds := []) x11a0 (by kernel_rfl) rfl rfl ⟨(blk_cell BK412.out 0).trans rfl, (blk_cell BK412.out 1).trans rfl, (blk_cell BK412.out 2).trans rfl, (blk_cell BK412.out 3).trans rfl, (blk_cell BK412.out 4).trans rfl⟩ (fun hHeld => ?_); refine with_tabW spec_ErrorBound.tab1 spec_ErrorBound.bits1 (fun HT_ HW_ => ?_)
   generalize w3.drew = w11 at BK412 HB hHeld ⊢
   refine xT5 hHeld 0 7 x11a1 ?_
   refine xU 1 8 x11a2 (fun K hK => ?_)
   refine xY Try.func297 #[.agg #[.int .i64 a0_0, .int .i64 a0_1, .int .i64 a0_2, .int .i64 a0_3, .bool a0_4]] ?_
   with_reducible refine (spec_foGood.calls a0_0 a0_1 a0_2 a0_3 a0_4 false _ A4.out).mono ?_
   rintro e w12 ⟨rfl, hb⟩
   refine ⟨_, rfl, ?_⟩
   replace BK412 := xkb BK412 hb
   replace HB := xA (below_step (xB1 GE412.out HB.out) hb)
   (try clear hb); (try clear hb2); (try clear hk); (try clear hi)
   refine hK.out _ _ ⟨(blk_cell BK412.out 0).trans rfl, (blk_cell BK412.out 1).trans rfl, (blk_cell BK412.out 2).trans rfl, (blk_cell BK412.out 3).trans rfl, (blk_cell BK412.out 4).trans rfl⟩ (fun hHeld => ?_)
   clear hK K
   refine xN ?_
   refine xP 2 9 x11a3 ?_
   refine xP 3 10 x11a4 ?_
   refine pure_ (i := 4) (N := some 11) (v := undef) (a' := ?_) x11a5 rfl rfl (any_of HT_.out (by kernel_rfl)) (fun _ _ _ h => h) (Or.inr ⟨by rfl, rfl⟩) ?_ ?_
   rotate_left
   ·exact xE
   refine pure_ (i := 5) (N := some 12) (v := undef) (a' := ?_) x11a6 rfl rfl (any_of HT_.out (by kernel_rfl)) (fun _ _ _ h => h) (Or.inr ⟨by rfl, rfl⟩) ?_ ?_
   rotate_left
   ·exact xE
   refine pure_ (i := 6) (N := some 13) (v := undef) (a' := ?_) x11a7 rfl rfl (any_of HT_.out (by kernel_rfl)) (fun _ _ _ h => h) (Or.inr ⟨by rfl, rfl⟩) ?_ ?_
   rotate_left
   ·exact xE
   refine pure_ (i := 7) (N := some 14) (v := undef) (a' := ?_) x11a8 rfl rfl (any_of HT_.out (by kernel_rfl)) (fun _ _ _ h => h) (Or.inr ⟨by rfl, rfl⟩) ?_ ?_
   rotate_left
   ·exact xE
   refine pure_ (i := 8) (N := some 15) (v := undef) (a' := ?_) x11a9 rfl rfl (any_of HT_.out (by kernel_rfl)) (fun _ _ _ h => h) (Or.inr ⟨by rfl, rfl⟩) ?_ ?_
   rotate_left
   ·exact xE
   refine pure_ (i := 9) (N := some 16) (v := undef) (a' := ?_) x11a10 rfl rfl (any_of HT_.out (by kernel_rfl)) (fun _ _ _ h => h) (Or.inr ⟨by rfl, rfl⟩) ?_ ?_
   rotate_left
   ·exact xE
   refine pure_ (i := 10) (N := some 17) (v := undef) (a' := ?_) x11a11 rfl rfl (any_of HT_.out (by kernel_rfl)) (fun _ _ _ h => h) (Or.inr ⟨by rfl, rfl⟩) ?_ ?_
   rotate_left
   ·exact xE
   refine xP 11 18 x11a12 ?_
   refine xDn ?_
   try go_wp2
   go_meet
   case rel => exact ⟨_, (true), xs, H', ⟨by first | omega | exact Nat.le_refl _⟩, ⟨xK BK412.out⟩, ⟨xB1 GE412.out HB.out⟩⟩
  subst c5
  rw [if_pos rfl] at H
  obtain ⟨t414, A6, H⟩ := xO H
  (try dsimp only at H)
  by_cases c7 : 0 ≤ a0_1
  rotate_left
  ·rw [if_neg c7] at H
   exact absurd H (by simp)
  rw [if_pos c7] at H
  have c7b0 := eq_true c7
  have c7b1 : decide (0 ≤ a0_1) = true := decide_eq_true c7
  clear c7
  obtain ⟨ji8, hji8⟩ : ∃ j_ : Int, (shl .i64 1 a0_1) = j_ := ⟨_, rfl⟩
  (first | rw [hji8] at H | simp only [hji8] at H)
  (try rw [hji8] at A4)
  (try rw [hji8] at A6)
  have hji8_ : (IntKind.i64.wrap (1 * 2 ^ min a0_1.toNat 64)) = ji8 := hji8
  have hji8z : a0_1 ≤ 64 → (IntKind.i64.wrap (1 * 2 ^ a0_1.toNat)) = ji8 := shl_small hji8
  have hji8u : (IntKind.i64.wrap (2 ^ min a0_1.toNat 64)) = ji8 := by have h_ := hji8_; rw [Int.one_mul] at h_; exact h_
  have hji8v : a0_1 ≤ 64 → (IntKind.i64.wrap (2 ^ a0_1.toNat)) = ji8 := fun hle_ => by have h_ := hji8z hle_; rw [Int.one_mul] at h_; exact h_
  have hji8y : (wrap64 (1 * 2 ^ min a0_1.toNat 64)) = ji8 := (i64_w _).symm.trans hji8_
  have hji8x : a0_1 ≤ 64 → (wrap64 (1 * 2 ^ a0_1.toNat)) = ji8 := fun h_ => (i64_w _).symm.trans (hji8z h_)
  have H' := xA H
  clear H
  try go_wp2
  replace BK412 := xA (blk_drew BK412.out)
  replace HB := xA (below_drew1 HB.out)
  refine start_ (n := 12) (S := fun w' => w'.cell? ⟨gb412, 0, none⟩ = some (.int .i64 a0_0) ∧ w'.cell? ⟨gb412, 1, none⟩ = some (.int .i64 a0_1) ∧ w'.cell? ⟨gb412, 2, none⟩ = some (.int .i64 a0_2) ∧ w'.cell? ⟨gb412, 3, none⟩ = some (.int .i64 a0_3) ∧ w'.cell? ⟨gb412, 4, none⟩ = some (.bool a0_4)) (ds := []) x11a0 (by kernel_rfl) rfl rfl ⟨(blk_cell BK412.out 0).trans rfl, (blk_cell BK412.out 1).trans rfl, (blk_cell BK412.out 2).trans rfl, (blk_cell BK412.out 3).trans rfl, (blk_cell BK412.out 4).trans rfl⟩ (fun hHeld => ?_); refine with_tabW spec_ErrorBound.tab1 spec_ErrorBound.bits1 (fun HT_ HW_ => ?_)
  generalize w3.drew = w9 at BK412 HB hHeld ⊢
  refine xT5 hHeld 0 7 x11a1 ?_
  refine xU 1 8 x11a2 (fun K hK => ?_)
  refine xY Try.func297 #[.agg #[.int .i64 a0_0, .int .i64 a0_1, .int .i64 a0_2, .int .i64 a0_3, .bool a0_4]] ?_
  with_reducible refine (spec_foGood.calls a0_0 a0_1 a0_2 a0_3 a0_4 true _ A4.out).mono ?_
  rintro e w10 ⟨rfl, hb⟩
  refine ⟨_, rfl, ?_⟩
  replace BK412 := xkb BK412 hb
  replace HB := xA (below_step (xB1 GE412.out HB.out) hb)
  (try clear hb); (try clear hb2); (try clear hk); (try clear hi)
  refine hK.out _ _ ⟨(blk_cell BK412.out 0).trans rfl, (blk_cell BK412.out 1).trans rfl, (blk_cell BK412.out 2).trans rfl, (blk_cell BK412.out 3).trans rfl, (blk_cell BK412.out 4).trans rfl⟩ (fun hHeld => ?_)
  clear hK K
  refine xN ?_
  refine xP 2 9 x11a3 ?_
  refine xP 3 10 x11a4 ?_
  refine xP 4 11 x11a5 ?_
  refine xP 7 14 x11a13 ?_
  refine xT5 hHeld 5 12 x11a14 ?_
  refine xT5 hHeld 8 15 x11a15 ?_
  refine xP 9 16 x11a16 ?_
  refine xU 6 13 x11a10 (fun K hK => ?_)
  refine xY Try.func298 #[.int .i64 a0_0] ?_
  with_reducible refine (spec_l1Abs.calls a0_0 t414 _ A6.out).mono ?_
  rintro e w' ⟨rfl, ⟨nd, rfl⟩⟩
  refine ⟨_, rfl, ?_⟩
  refine hK.out _ _ ⟨(blk_cell BK412.out 0).trans rfl, (blk_cell BK412.out 1).trans rfl, (blk_cell BK412.out 2).trans rfl, (blk_cell BK412.out 3).trans rfl, (blk_cell BK412.out 4).trans rfl⟩ (fun hHeld => ?_)
  clear hK K
  refine xN ?_
  refine xP 10 17 x11a11 ?_
  refine xP 11 18 x11a12 ?_
  refine xDn ?_
  try go_wp2
  go_meet
  case rel => exact ⟨_, (decide (t414 ≥ (ji8))), (by first | rfl | (simp; done) | (simp only [← hji8] <;> (first | rfl | simp)) | (simp [*]; done)), H', ⟨by first | omega | exact Nat.le_refl _⟩, ⟨xK BK412.out⟩, ⟨xB1 GE412.out HB.out⟩⟩
 case rest => as_aux_lemma =>
  clear HC2
  obtain ⟨kq, x18_1, rfl, HA, HJ1, BK412, HB⟩ := hcut
  cases kq with
  | zero => exact absurd HA.out (by simp [spec_ErrorBound.j0])
  | succ kj1 =>
   have H := HA.out
   clear HA
   simp only [spec_ErrorBound.j0] at H
   by_cases c13 : x18_1 = true
   ·subst c13
    rw [if_pos rfl] at H
    simp only [Option.some.injEq, Prod.mk.injEq] at H
    obtain ⟨rfl, rfl, rfl⟩ := H
    go_wp2
    go_ret3
    exact ⟨xr, xB1 GE412.out HB.out⟩
   replace c13 := Bool.eq_false_iff.mpr c13
   subst c13
   rw [if_neg (show ¬ (false = true) by decide)] at H
   by_cases c14 : 0 ≤ a0_1
   rotate_left
   ·rw [if_neg c14] at H
    exact absurd H (by simp)

   rw [if_pos c14] at H
   have c14b0 := eq_true c14
   have c14b1 : decide (0 ≤ a0_1) = true := decide_eq_true c14
   clear c14
   obtain ⟨ji15, hji15⟩ : ∃ j_ : Int, (shl .i64 1 a0_1) = j_ := ⟨_, rfl⟩
   (first | rw [hji15] at H | simp only [hji15] at H)
   have hji15_ : (IntKind.i64.wrap (1 * 2 ^ min a0_1.toNat 64)) = ji15 := hji15
   have hji15z : a0_1 ≤ 64 → (IntKind.i64.wrap (1 * 2 ^ a0_1.toNat)) = ji15 := shl_small hji15
   have hji15u : (IntKind.i64.wrap (2 ^ min a0_1.toNat 64)) = ji15 := by have h_ := hji15_; rw [Int.one_mul] at h_; exact h_
   have hji15v : a0_1 ≤ 64 → (IntKind.i64.wrap (2 ^ a0_1.toNat)) = ji15 := fun hle_ => by have h_ := hji15z hle_; rw [Int.one_mul] at h_; exact h_
   have hji15y : (wrap64 (1 * 2 ^ min a0_1.toNat 64)) = ji15 := (i64_w _).symm.trans hji15_
   have hji15x : a0_1 ≤ 64 → (wrap64 (1 * 2 ^ a0_1.toNat)) = ji15 := fun h_ => (i64_w _).symm.trans (hji15z h_)
   obtain ⟨t415, A16, H⟩ := xO H
   (try dsimp only at H)
   by_cases c17 : a0_2 = 1
   rotate_left
   ·rw [if_neg c17] at H
    have c17b0 : (a0_2 == 1) = false := beq_eq_false_iff_ne.mpr c17
    have c17b1 : (a0_2 != 1) = true := bne_iff_ne.mpr c17
    have c22b0 := eq_true (of_decide_eq_true (by first | (with_reducible assumption) | assumption) : 0 ≤ a0_1)
    replace H := Option.bind_eq_some_iff.mp H
    obtain ⟨⟨t418, t419⟩, A230, H⟩ := H
    (try dsimp only at H)
    have A23 := xA A230
    clear A230
    simp only [Option.some.injEq, Prod.mk.injEq] at H
    obtain ⟨rfl, rfl, rfl⟩ := H
    try go_wp2
    replace BK412 := xA (blk_drew BK412.out)
    replace HB := xA (below_drew1 HB.out)
    refine start_ (n := 8) (S := fun w' => w'.cell? ⟨gb412, 0, none⟩ = some (.int .i64 a0_0) ∧ w'.cell? ⟨gb412, 1, none⟩ = some (.int .i64 a0_1) ∧ w'.cell? ⟨gb412, 2, none⟩ = some (.int .i64 a0_2) ∧ w'.cell? ⟨gb412, 3, none⟩ = some (.int .i64 a0_3) ∧ w'.cell? ⟨gb412, 4, none⟩ = some (.bool a0_4)) (ds := []) x11a17 (by kernel_rfl) rfl rfl ⟨(blk_cell BK412.out 0).trans rfl, (blk_cell BK412.out 1).trans rfl, (blk_cell BK412.out 2).trans rfl, (blk_cell BK412.out 3).trans rfl, (blk_cell BK412.out 4).trans rfl⟩ (fun hHeld => ?_); refine with_tabW spec_ErrorBound.tab3 spec_ErrorBound.bits3 (fun HT_ HW_ => ?_)
    generalize wc.drew = w24 at BK412 HB hHeld ⊢
    refine xP 0 19 x11a18 ?_
    refine xP 3 22 x11a19 ?_
    refine xT5 hHeld 1 20 x11a20 ?_
    refine xP 2 21 x11a21 ?_
    refine xT5 hHeld 4 23 x11a22 ?_
    refine xU 5 24 x11a23 (fun K hK => ?_)
    refine xY Try.func298 #[.int .i64 a0_0] ?_
    with_reducible refine (spec_l1Abs.calls a0_0 t415 _ A16.out).mono ?_
    rintro e w' ⟨rfl, ⟨nd, rfl⟩⟩
    refine ⟨_, rfl, ?_⟩
    refine hK.out _ _ ⟨(blk_cell BK412.out 0).trans rfl, (blk_cell BK412.out 1).trans rfl, (blk_cell BK412.out 2).trans rfl, (blk_cell BK412.out 3).trans rfl, (blk_cell BK412.out 4).trans rfl⟩ (fun hHeld => ?_)
    clear hK K
    refine xN ?_
    refine xP 6 25 x11a24 ?_
    refine xP 7 5 x11a25 ?_
    refine xDn ?_
    replace hz412 := blk_cell BK412.out; replace hy412 := blk_frozen BK412.out
    try go_wp2_with (first | ((with_reducible refine gate_callee (f := 299) rfl ?_); refine goesL_ (some 36) rfl rfl Try.func299 (by kernel_rfl) rfl #[.int .i64 ji15, .int .i64 (wrap64 ((ji15) - t415))] rfl (by (try simp only [List.map_toArray, List.map_cons, List.map_nil]); first | done | (simp only [hji15]; rfl) | rfl | (simp only [List.length_drop, List.length_take]; rfl)) ?_; (with_reducible refine (spec_foRatio.calls kj1 ji15 (wrap64 ((ji15) - t415)) t418 t419 _ A23.out).mono ?_); rintro e w' ⟨rfl, ⟨nd, rfl⟩⟩; refine ⟨_, rfl, ?_⟩))
    go_ret3
    exact ⟨by first | rfl | (simp [errW_none, errW_some] <;> rfl) | (simp only [← hji15]; first | rfl | (simp [errW_none, errW_some] <;> rfl)) | (simp [*, errW_none, errW_some] <;> rfl), xB1 GE412.out HB.out⟩
   rw [if_pos c17] at H
   have c17b0 : (a0_2 == 1) = true := beq_iff_eq.mpr c17
   have c17b1 : (a0_2 != 1) = false := bne_eq_false_iff_eq.mpr c17
   clear c17
   have c18b0 := eq_true (of_decide_eq_true (by first | (with_reducible assumption) | assumption) : 0 ≤ a0_1)
   replace H := Option.bind_eq_some_iff.mp H
   obtain ⟨⟨t416, t417⟩, A190, H⟩ := H
   (try dsimp only at H)
   have A19 := xA A190
   clear A190
   simp only [Option.some.injEq, Prod.mk.injEq] at H
   obtain ⟨rfl, rfl, rfl⟩ := H
   try go_wp2
   replace BK412 := xA (blk_drew BK412.out)
   replace HB := xA (below_drew1 HB.out)
   refine start_ (n := 8) (S := fun w' => w'.cell? ⟨gb412, 0, none⟩ = some (.int .i64 a0_0) ∧ w'.cell? ⟨gb412, 1, none⟩ = some (.int .i64 a0_1) ∧ w'.cell? ⟨gb412, 2, none⟩ = some (.int .i64 a0_2) ∧ w'.cell? ⟨gb412, 3, none⟩ = some (.int .i64 a0_3) ∧ w'.cell? ⟨gb412, 4, none⟩ = some (.bool a0_4)) (ds := []) x11a17 (by kernel_rfl) rfl rfl ⟨(blk_cell BK412.out 0).trans rfl, (blk_cell BK412.out 1).trans rfl, (blk_cell BK412.out 2).trans rfl, (blk_cell BK412.out 3).trans rfl, (blk_cell BK412.out 4).trans rfl⟩ (fun hHeld => ?_); refine with_tabW spec_ErrorBound.tab3 spec_ErrorBound.bits3 (fun HT_ HW_ => ?_)
   generalize wc.drew = w20 at BK412 HB hHeld ⊢
   refine xP 0 19 x11a18 ?_
   refine xP 3 22 x11a19 ?_
   refine xT5 hHeld 1 20 x11a20 ?_
   refine xP 2 21 x11a21 ?_
   refine xT5 hHeld 4 23 x11a22 ?_
   refine xU 5 24 x11a23 (fun K hK => ?_)
   refine xY Try.func298 #[.int .i64 a0_0] ?_
   with_reducible refine (spec_l1Abs.calls a0_0 t415 _ A16.out).mono ?_
   rintro e w' ⟨rfl, ⟨nd, rfl⟩⟩
   refine ⟨_, rfl, ?_⟩
   refine hK.out _ _ ⟨(blk_cell BK412.out 0).trans rfl, (blk_cell BK412.out 1).trans rfl, (blk_cell BK412.out 2).trans rfl, (blk_cell BK412.out 3).trans rfl, (blk_cell BK412.out 4).trans rfl⟩ (fun hHeld => ?_)
   clear hK K
   refine xN ?_
   refine xP 6 25 x11a24 ?_
   refine xP 7 5 x11a25 ?_
   refine xDn ?_
   replace hz412 := blk_cell BK412.out; replace hy412 := blk_frozen BK412.out
   try go_wp2_with (first | ((with_reducible refine gate_callee (f := 299) rfl ?_); refine goesL_ (some 36) rfl rfl Try.func299 (by kernel_rfl) rfl #[.int .i64 ji15, .int .i64 (wrap64 ((wrap64 ((ji15) - t415)) * 2))] rfl (by (try simp only [List.map_toArray, List.map_cons, List.map_nil]); first | done | (simp only [hji15]; rfl) | rfl | (simp only [List.length_drop, List.length_take]; rfl)) ?_; (with_reducible refine (spec_foRatio.calls kj1 ji15 (wrap64 ((wrap64 ((ji15) - t415)) * 2)) t416 t417 _ A19.out).mono ?_); rintro e w' ⟨rfl, ⟨nd, rfl⟩⟩; refine ⟨_, rfl, ?_⟩))
   go_ret3
   exact ⟨by first | rfl | (simp [errW_none, errW_some] <;> rfl) | (simp only [← hji15]; first | rfl | (simp [errW_none, errW_some] <;> rfl)) | (simp [*, errW_none, errW_some] <;> rfl), xB1 GE412.out HB.out⟩
/-! ### impl_IsShrinking: function 95 -/
def impl_IsShrinking.f (a0_0 : Int) (a0_1 : Int) (a0_2 : Int) (a0_3 : Int) (a0_4 : Bool) : Option (Bool × Bool) := (impl_isFirst.f a0_0 a0_1 a0_2 a0_3 a0_4).bind fun t421 => (if t421 = true then ((impl_First_isShrinking.f a0_0 a0_1 a0_2 a0_3 a0_4).bind fun t422 => (some (t422, true))) else (some (false, false)))
set_option maxHeartbeats 200000000 in
set_option maxRecDepth 100000 in
theorem impl_IsShrinking.calls (a0_0 : Int) (a0_1 : Int) (a0_2 : Int) (a0_3 : Int) (a0_4 : Bool) (r1 : Bool) (r2 : Bool) (w : World) (h : impl_IsShrinking.f a0_0 a0_1 a0_2 a0_3 a0_4 = some (r1, r2)) :
  Calls Try.prog 95 #[.agg #[.int .i64 a0_0, .int .i64 a0_1, .int .i64 a0_2, .int .i64 a0_3, .bool a0_4]] w fun e w' => e = .returned (.tuple #[.bool r1, .bool r2]) ∧ Below w.heap.size w w' := by
 have hu62 := Try.underlying62
 have HB := xA (Below.refl w.heap.size w)
 have H : ((impl_isFirst.f a0_0 a0_1 a0_2 a0_3 a0_4).bind fun t421 => (if t421 = true then ((impl_First_isShrinking.f a0_0 a0_1 a0_2 a0_3 a0_4).bind fun t422 => (some (t422, true))) else (some (false, false)))) = some (r1, r2) := h
 clear h
 obtain ⟨t421, A2, H⟩ := xO H
 (try dsimp only at H)
 by_cases c3 : t421 = true
 rotate_left
 ·replace c3 := Bool.eq_false_iff.mpr c3
  subst c3
  rw [if_neg (show ¬ (false = true) by decide)] at H
  simp only [Option.some.injEq, Prod.mk.injEq] at H
  obtain ⟨rfl, rfl⟩ := H
  go_enter Try.func95, Try.ntmps95
  go_wp2_with (first | (refine xg 1 rfl ?_; refine xV 1 #[.int .i64 a0_0, .int .i64 a0_1, .int .i64 a0_2, .int .i64 a0_3, .bool a0_4] 62 ?_; intro gb420 hg w10 hbox hb; have BK420 := xA (hbox); have GW420 := xgw hg (below_size (xB HB.out)); have GE420 := GW420; replace HB := xA (below_step (xB HB.out) hb); clear hb hbox hg; replace hz420 := blk_cell BK420.out; replace hy420 := blk_frozen BK420.out) | (refine xG (some 5) Try.func294 #[.agg #[.int .i64 a0_0, .int .i64 a0_1, .int .i64 a0_2, .int .i64 a0_3, .bool a0_4]] ?_; (with_reducible refine (impl_isFirst.calls a0_0 a0_1 a0_2 a0_3 a0_4 false _ A2.out).mono ?_); rintro e w12 ⟨rfl, hb⟩; refine ⟨_, rfl, ?_⟩; replace BK420 := xkb BK420 hb; replace HB := xA (below_step (xB1 GE420.out HB.out) hb); (try clear hb)))
  go_ret2
  exact ⟨xr, xB1 GE420.out HB.out⟩

 subst c3
 rw [if_pos rfl] at H
 obtain ⟨t422, A4, H⟩ := xO H
 (try dsimp only at H)
 simp only [Option.some.injEq, Prod.mk.injEq] at H
 obtain ⟨rfl, rfl⟩ := H
 go_enter Try.func95, Try.ntmps95
 go_wp2_with (first | (refine xq rfl ?_; first | (refine xG (some 5) Try.func294 #[.agg #[.int .i64 a0_0, .int .i64 a0_1, .int .i64 a0_2, .int .i64 a0_3, .bool a0_4]] ?_; (with_reducible refine (impl_isFirst.calls a0_0 a0_1 a0_2 a0_3 a0_4 true _ A2.out).mono ?_); rintro e w7 ⟨rfl, hb⟩; refine ⟨_, rfl, ?_⟩; replace BK420 := xkb BK420 hb; replace HB := xA (below_step (xB1 GE420.out HB.out) hb); (try clear hb); obtain ⟨hcz8_0, hcz8_1, hcz8_2, hcz8_3, hcz8_4, hfz8_0, hfz8_1, hfz8_2, hfz8_3, hfz8_4⟩ := xZ5 BK420.out) | (refine xG (some 8) Try.func295 #[.agg #[.int .i64 a0_0, .int .i64 a0_1, .int .i64 a0_2, .int .i64 a0_3, .bool a0_4]] ?_; (with_reducible refine (impl_First_isShrinking.calls a0_0 a0_1 a0_2 a0_3 a0_4 t422 _ A4.out).mono ?_); rintro e w9 ⟨rfl, hb⟩; refine ⟨_, rfl, ?_⟩; replace BK420 := xkb BK420 hb; replace HB := xA (below_step (xB1 GE420.out HB.out) hb); (try clear hb))) | (refine xg 1 rfl ?_; refine xV 1 #[.int .i64 a0_0, .int .i64 a0_1, .int .i64 a0_2, .int .i64 a0_3, .bool a0_4] 62 ?_; intro gb420 hg w5 hbox hb; have BK420 := xA (hbox); have GW420 := xgw hg (below_size (xB HB.out)); have GE420 := GW420; replace HB := xA (below_step (xB HB.out) hb); clear hb hbox hg; replace hz420 := blk_cell BK420.out; replace hy420 := blk_frozen BK420.out))
 go_ret2
 exact ⟨xr, xB1 GE420.out HB.out⟩
/-! ### spec_IsShrinking: function 96 -/
def spec_IsShrinking.f (a0_0 : Int) (a0_1 : Int) (a0_2 : Int) (a0_3 : Int) (a0_4 : Bool) : Option (Bool × Bool) := (spec_foGood.f a0_0 a0_1 a0_2 a0_3 a0_4).bind fun t424 => (if t424 = true then ((spec_l1Abs.f a0_0).bind fun t425 => (if 0 ≤ a0_1 then (some (decide (t425 < (shl .i64 1 a0_1)), true)) else (none))) else (some (false, false)))
set_option maxHeartbeats 200000000 in
set_option maxRecDepth 100000 in
theorem spec_IsShrinking.calls (a0_0 : Int) (a0_1 : Int) (a0_2 : Int) (a0_3 : Int) (a0_4 : Bool) (r1 : Bool) (r2 : Bool) (w : World) (h : spec_IsShrinking.f a0_0 a0_1 a0_2 a0_3 a0_4 = some (r1, r2)) :
  Calls Try.prog 96 #[.agg #[.int .i64 a0_0, .int .i64 a0_1, .int .i64 a0_2, .int .i64 a0_3, .bool a0_4]] w fun e w' => e = .returned (.tuple #[.bool r1, .bool r2]) ∧ Below w.heap.size w w' := by
 have hu62 := Try.underlying62
 have HB := xA (Below.refl w.heap.size w)
 have H : ((spec_foGood.f a0_0 a0_1 a0_2 a0_3 a0_4).bind fun t424 => (if t424 = true then ((spec_l1Abs.f a0_0).bind fun t425 => (if 0 ≤ a0_1 then (some (decide (t425 < (shl .i64 1 a0_1)), true)) else (none))) else (some (false, false)))) = some (r1, r2) := h
 clear h
 obtain ⟨t424, A2, H⟩ := xO H
 (try dsimp only at H)
 by_cases c3 : t424 = true
 rotate_left
 ·replace c3 := Bool.eq_false_iff.mpr c3
  subst c3
  rw [if_neg (show ¬ (false = true) by decide)] at H
  simp only [Option.some.injEq, Prod.mk.injEq] at H
  obtain ⟨rfl, rfl⟩ := H
  go_enter Try.func96, Try.ntmps96
  go_wp2_with (first | (refine xg 1 rfl ?_; refine xV 1 #[.int .i64 a0_0, .int .i64 a0_1, .int .i64 a0_2, .int .i64 a0_3, .bool a0_4] 62 ?_; intro gb423 hg w11 hbox hb; have BK423 := xA (hbox); have GW423 := xgw hg (below_size (xB HB.out)); have GE423 := GW423; replace HB := xA (below_step (xB HB.out) hb); clear hb hbox hg; obtain ⟨hcz12_0, hcz12_1, hcz12_2, hcz12_3, hcz12_4, hfz12_0, hfz12_1, hfz12_2, hfz12_3, hfz12_4⟩ := xZ5 BK423.out) | (go_at_call 297; (with_reducible refine (spec_foGood.calls a0_0 a0_1 a0_2 a0_3 a0_4 false _ A2.out).mono ?_); rintro e w13 ⟨rfl, hb⟩; replace BK423 := xkb BK423 hb; replace HB := xA (below_step (xB1 GE423.out HB.out) hb); (try clear hb)))
  repeat (go_quiet (first | (refine xg 1 rfl ?_; refine xV 1 #[.int .i64 a0_0, .int .i64 a0_1, .int .i64 a0_2, .int .i64 a0_3, .bool a0_4] 62 ?_; intro gb423 hg w11 hbox hb; have BK423 := xA (hbox); have GW423 := xgw hg (below_size (xB HB.out)); have GE423 := GW423; replace HB := xA (below_step (xB HB.out) hb); clear hb hbox hg; obtain ⟨hcz12_0, hcz12_1, hcz12_2, hcz12_3, hcz12_4, hfz12_0, hfz12_1, hfz12_2, hfz12_3, hfz12_4⟩ := xZ5 BK423.out) | (go_at_call 297; (with_reducible refine (spec_foGood.calls a0_0 a0_1 a0_2 a0_3 a0_4 false _ A2.out).mono ?_); rintro e w13 ⟨rfl, hb⟩; replace BK423 := xkb BK423 hb; replace HB := xA (below_step (xB1 GE423.out HB.out) hb); (try clear hb))); try go_wp2_with (first | (refine xg 1 rfl ?_; refine xV 1 #[.int .i64 a0_0, .int .i64 a0_1, .int .i64 a0_2, .int .i64 a0_3, .bool a0_4] 62 ?_; intro gb423 hg w11 hbox hb; have BK423 := xA (hbox); have GW423 := xgw hg (below_size (xB HB.out)); have GE423 := GW423; replace HB := xA (below_step (xB HB.out) hb); clear hb hbox hg; obtain ⟨hcz12_0, hcz12_1, hcz12_2, hcz12_3, hcz12_4, hfz12_0, hfz12_1, hfz12_2, hfz12_3, hfz12_4⟩ := xZ5 BK423.out) | (go_at_call 297; (with_reducible refine (spec_foGood.calls a0_0 a0_1 a0_2 a0_3 a0_4 false _ A2.out).mono ?_); rintro e w13 ⟨rfl, hb⟩; replace BK423 := xkb BK423 hb; replace HB := xA (below_step (xB1 GE423.out HB.out) hb); (try clear hb))))
  go_ret2
  exact ⟨xr, xB1 GE423.out HB.out⟩

 subst c3
 rw [if_pos rfl] at H
 obtain ⟨t425, A4, H⟩ := xO H
 (try dsimp only at H)
 by_cases c5 : 0 ≤ a0_1
 rotate_left
 ·rw [if_neg c5] at H
  exact absurd H (by simp)
 rw [if_pos c5] at H
 have c5b0 := eq_true c5
 have c5b1 : decide (0 ≤ a0_1) = true := decide_eq_true c5
 clear c5
 obtain ⟨ji6, hji6⟩ : ∃ j_ : Int, (shl .i64 1 a0_1) = j_ := ⟨_, rfl⟩
 (first | rw [hji6] at H | simp only [hji6] at H)
 (try rw [hji6] at A2)
 (try rw [hji6] at A4)
 have hji6_ : (IntKind.i64.wrap (1 * 2 ^ min a0_1.toNat 64)) = ji6 := hji6
 have hji6z : a0_1 ≤ 64 → (IntKind.i64.wrap (1 * 2 ^ a0_1.toNat)) = ji6 := shl_small hji6
 have hji6u : (IntKind.i64.wrap (2 ^ min a0_1.toNat 64)) = ji6 := by have h_ := hji6_; rw [Int.one_mul] at h_; exact h_
 have hji6v : a0_1 ≤ 64 → (IntKind.i64.wrap (2 ^ a0_1.toNat)) = ji6 := fun hle_ => by have h_ := hji6z hle_; rw [Int.one_mul] at h_; exact h_
 have hji6y : (wrap64 (1 * 2 ^ min a0_1.toNat 64)) = ji6 := (i64_w _).symm.trans hji6_
 have hji6x : a0_1 ≤ 64 → (wrap64 (1 * 2 ^ a0_1.toNat)) = ji6 := fun h_ => (i64_w _).symm.trans (hji6z h_)
 simp only [Option.some.injEq, Prod.mk.injEq] at H
 obtain ⟨rfl, rfl⟩ := H
 go_enter Try.func96, Try.ntmps96
 go_wp2_with (first | (refine xg 1 rfl ?_; refine xV 1 #[.int .i64 a0_0, .int .i64 a0_1, .int .i64 a0_2, .int .i64 a0_3, .bool a0_4] 62 ?_; intro gb423 hg w7 hbox hb; have BK423 := xA (hbox); have GW423 := xgw hg (below_size (xB HB.out)); have GE423 := GW423; replace HB := xA (below_step (xB HB.out) hb); clear hb hbox hg; obtain ⟨hcz8_0, hcz8_1, hcz8_2, hcz8_3, hcz8_4, hfz8_0, hfz8_1, hfz8_2, hfz8_3, hfz8_4⟩ := xZ5 BK423.out) | (go_at_call 297; (with_reducible refine (spec_foGood.calls a0_0 a0_1 a0_2 a0_3 a0_4 true _ A2.out).mono ?_); rintro e w9 ⟨rfl, hb⟩; replace BK423 := xkb BK423 hb; replace HB := xA (below_step (xB1 GE423.out HB.out) hb); (try clear hb); obtain ⟨hcz10_0, hcz10_1, hcz10_2, hcz10_3, hcz10_4, hfz10_0, hfz10_1, hfz10_2, hfz10_3, hfz10_4⟩ := xZ5 BK423.out) | (go_at_call 298; (with_reducible refine (spec_l1Abs.calls a0_0 t425 _ A4.out).mono ?_); rintro e w' ⟨rfl, ⟨nd, rfl⟩⟩; (try exact xD)))
 repeat (go_quiet (first | (refine xg 1 rfl ?_; refine xV 1 #[.int .i64 a0_0, .int .i64 a0_1, .int .i64 a0_2, .int .i64 a0_3, .bool a0_4] 62 ?_; intro gb423 hg w7 hbox hb; have BK423 := xA (hbox); have GW423 := xgw hg (below_size (xB HB.out)); have GE423 := GW423; replace HB := xA (below_step (xB HB.out) hb); clear hb hbox hg; obtain ⟨hcz8_0, hcz8_1, hcz8_2, hcz8_3, hcz8_4, hfz8_0, hfz8_1, hfz8_2, hfz8_3, hfz8_4⟩ := xZ5 BK423.out) | (go_at_call 297; (with_reducible refine (spec_foGood.calls a0_0 a0_1 a0_2 a0_3 a0_4 true _ A2.out).mono ?_); rintro e w9 ⟨rfl, hb⟩; replace BK423 := xkb BK423 hb; replace HB := xA (below_step (xB1 GE423.out HB.out) hb); (try clear hb); obtain ⟨hcz10_0, hcz10_1, hcz10_2, hcz10_3, hcz10_4, hfz10_0, hfz10_1, hfz10_2, hfz10_3, hfz10_4⟩ := xZ5 BK423.out) | (go_at_call 298; (with_reducible refine (spec_l1Abs.calls a0_0 t425 _ A4.out).mono ?_); rintro e w' ⟨rfl, ⟨nd, rfl⟩⟩; (try exact xD))); try go_wp2_with (first | (refine xg 1 rfl ?_; refine xV 1 #[.int .i64 a0_0, .int .i64 a0_1, .int .i64 a0_2, .int .i64 a0_3, .bool a0_4] 62 ?_; intro gb423 hg w7 hbox hb; have BK423 := xA (hbox); have GW423 := xgw hg (below_size (xB HB.out)); have GE423 := GW423; replace HB := xA (below_step (xB HB.out) hb); clear hb hbox hg; obtain ⟨hcz8_0, hcz8_1, hcz8_2, hcz8_3, hcz8_4, hfz8_0, hfz8_1, hfz8_2, hfz8_3, hfz8_4⟩ := xZ5 BK423.out) | (go_at_call 297; (with_reducible refine (spec_foGood.calls a0_0 a0_1 a0_2 a0_3 a0_4 true _ A2.out).mono ?_); rintro e w9 ⟨rfl, hb⟩; replace BK423 := xkb BK423 hb; replace HB := xA (below_step (xB1 GE423.out HB.out) hb); (try clear hb); obtain ⟨hcz10_0, hcz10_1, hcz10_2, hcz10_3, hcz10_4, hfz10_0, hfz10_1, hfz10_2, hfz10_3, hfz10_4⟩ := xZ5 BK423.out) | (go_at_call 298; (with_reducible refine (spec_l1Abs.calls a0_0 t425 _ A4.out).mono ?_); rintro e w' ⟨rfl, ⟨nd, rfl⟩⟩; (try exact xD))))
 go_ret2
 exact ⟨by first | rfl | (simp [errW_none, errW_some] <;> rfl) | (simp only [← hji6]; first | rfl | (simp [errW_none, errW_some] <;> rfl)) | (simp [*, errW_none, errW_some] <;> rfl), xB1 GE423.out HB.out⟩
/-! ### impl_IsFirst: function 97 -/
def impl_IsFirst.f (a0_0 : Int) (a0_1 : Int) (a0_2 : Int) (a0_3 : Int) (a0_4 : Bool) : Option (Bool) := (impl_isFirst.f a0_0 a0_1 a0_2 a0_3 a0_4).bind fun t427 => (some t427)
set_option maxHeartbeats 200000000 in
set_option maxRecDepth 100000 in
theorem impl_IsFirst.calls (a0_0 : Int) (a0_1 : Int) (a0_2 : Int) (a0_3 : Int) (a0_4 : Bool) (r : Bool) (w : World) (h : impl_IsFirst.f a0_0 a0_1 a0_2 a0_3 a0_4 = some r) :
  Calls Try.prog 97 #[.agg #[.int .i64 a0_0, .int .i64 a0_1, .int .i64 a0_2, .int .i64 a0_3, .bool a0_4]] w fun e w' => e = .returned (.bool r) ∧ Below w.heap.size w w' := by
 have hu62 := Try.underlying62
 have HB := xA (Below.refl w.heap.size w)
 have H : ((impl_isFirst.f a0_0 a0_1 a0_2 a0_3 a0_4).bind fun t427 => (some t427)) = some r := h
 clear h
 obtain ⟨t427, A2, H⟩ := xO H
 (try dsimp only at H)
 obtain rfl := Option.some.inj H
 go_enter Try.func97, Try.ntmps97
 go_wp2_with (first | (refine xg 1 rfl ?_; refine xV 1 #[.int .i64 a0_0, .int .i64 a0_1, .int .i64 a0_2, .int .i64 a0_3, .bool a0_4] 62 ?_; intro gb426 hg w3 hbox hb; have BK426 := xA (hbox); have GW426 := xgw hg (below_size (xB HB.out)); have GE426 := GW426; replace HB := xA (below_step (xB HB.out) hb); clear hb hbox hg; obtain ⟨hcz4_0, hcz4_1, hcz4_2, hcz4_3, hcz4_4, hfz4_0, hfz4_1, hfz4_2, hfz4_3, hfz4_4⟩ := xZ5 BK426.out) | (refine xG (some 4) Try.func294 #[.agg #[.int .i64 a0_0, .int .i64 a0_1, .int .i64 a0_2, .int .i64 a0_3, .bool a0_4]] ?_; (with_reducible refine (impl_isFirst.calls a0_0 a0_1 a0_2 a0_3 a0_4 t427 _ A2.out).mono ?_); rintro e w5 ⟨rfl, hb⟩; refine ⟨_, rfl, ?_⟩; replace BK426 := xkb BK426 hb; replace HB := xA (below_step (xB1 GE426.out HB.out) hb); (try clear hb)))
 go_ret
 exact ⟨xr, xB1 GE426.out HB.out⟩

/-! ### spec_IsFirst: function 98 -/
def spec_IsFirst.f (a0_0 : Int) (a0_1 : Int) (a0_2 : Int) (a0_3 : Int) (a0_4 : Bool) : Option (Bool) := (spec_foGood.f a0_0 a0_1 a0_2 a0_3 a0_4).bind fun t429 => (some t429)
set_option maxHeartbeats 200000000 in
set_option maxRecDepth 100000 in
theorem spec_IsFirst.calls (a0_0 : Int) (a0_1 : Int) (a0_2 : Int) (a0_3 : Int) (a0_4 : Bool) (r : Bool) (w : World) (h : spec_IsFirst.f a0_0 a0_1 a0_2 a0_3 a0_4 = some r) :
  Calls Try.prog 98 #[.agg #[.int .i64 a0_0, .int .i64 a0_1, .int .i64 a0_2, .int .i64 a0_3, .bool a0_4]] w fun e w' => e = .returned (.bool r) ∧ Below w.heap.size w w' := by
 have hu62 := Try.underlying62
 have HB := xA (Below.refl w.heap.size w)
 have H : ((spec_foGood.f a0_0 a0_1 a0_2 a0_3 a0_4).bind fun t429 => (some t429)) = some r := h
 clear h
 obtain ⟨t429, A2, H⟩ := xO H
 (try dsimp only at H)
 obtain rfl := Option.some.inj H
 go_enter Try.func98, Try.ntmps98
 go_wp2_with (first | (refine xg 1 rfl ?_; refine xV 1 #[.int .i64 a0_0, .int .i64 a0_1, .int .i64 a0_2, .int .i64 a0_3, .bool a0_4] 62 ?_; intro gb428 hg w3 hbox hb; have BK428 := xA (hbox); have GW428 := xgw hg (below_size (xB HB.out)); have GE428 := GW428; replace HB := xA (below_step (xB HB.out) hb); clear hb hbox hg; obtain ⟨hcz4_0, hcz4_1, hcz4_2, hcz4_3, hcz4_4, hfz4_0, hfz4_1, hfz4_2, hfz4_3, hfz4_4⟩ := xZ5 BK428.out) | (refine xG (some 4) Try.func297 #[.agg #[.int .i64 a0_0, .int .i64 a0_1, .int .i64 a0_2, .int .i64 a0_3, .bool a0_4]] ?_; (with_reducible refine (spec_foGood.calls a0_0 a0_1 a0_2 a0_3 a0_4 t429 _ A2.out).mono ?_); rintro e w5 ⟨rfl, hb⟩; refine ⟨_, rfl, ?_⟩; replace BK428 := xkb BK428 hb; replace HB := xA (below_step (xB1 GE428.out HB.out) hb); (try clear hb)))
 go_ret
 exact ⟨xr, xB1 GE428.out HB.out⟩

/-! ### impl_isSample: function 300 -/
def impl_isSample.f (a0 : Int) : Option (Bool) := (impl_in.f a0 (-100000) 100000).bind fun t430 => (some t430)
set_option maxHeartbeats 200000000 in
set_option maxRecDepth 100000 in
theorem impl_isSample.calls (a0 : Int) (r : Bool) (w : World) (h : impl_isSample.f a0 = some r) :
  Calls Try.prog 300 #[.int .i64 a0] w fun e w' => e = .returned (.bool r) ∧ Drawn0 w w' := by
 have H : ((impl_in.f a0 (-100000) 100000).bind fun t430 => (some t430)) = some r := h
 clear h
 obtain ⟨t430, A2, H⟩ := xO H
 (try dsimp only at H)
 obtain rfl := Option.some.inj H
 go_enter Try.func300, Try.ntmps300
 go_wp2_with (first | (refine xG (some 4) Try.func223 #[.int .i64 a0, .int .i64 (-100000), .int .i64 100000] ?_; (with_reducible refine (impl_in.calls a0 (-100000) 100000 t430 _ A2.out).mono ?_); rintro e w' ⟨rfl, ⟨nd, rfl⟩⟩; refine ⟨_, rfl, ?_⟩))
 go_ret
 exact ⟨by first | rfl | (simp; done) | (simp [*]; done), by repeat (first | exact Drawn0.refl _ | apply Drawn0.step)⟩

/-! ### impl_FirstStep: function 99 -/
def impl_FirstStep.f (k : Nat) (a0_0 : Int) (a0_1 : Int) (a0_2 : Int) (a0_3 : Int) (a0_4 : Bool) (a1 : Int) (a2 : Int) : Option (Int × Bool) := (impl_First_isAt.f a0_0 a0_1 a0_2 a0_3 a0_4 a1).bind fun t432 => (if t432 = true then ((impl_isSample.f a2).bind fun t433 => (if t433 = true then ((impl_First_step.f k a0_0 a0_1 a0_2 a0_3 a0_4 a1 a2).bind fun t434 => (some (t434, true))) else (some (0, false)))) else (some (0, false)))
theorem impl_FirstStep.mono : ∀ a0 a1 a2 a3 a4 a5 a6 k, LeO (impl_FirstStep.f k a0 a1 a2 a3 a4 a5 a6) (impl_FirstStep.f (k + 1) a0 a1 a2 a3 a4 a5 a6) := by
 intro a0 a1 a2 a3 a4 a5 a6 k
 have m0 := @impl_First_step.mono
 unfold impl_FirstStep.f
 exact xM
set_option maxHeartbeats 200000000 in
set_option maxRecDepth 100000 in
theorem impl_FirstStep.calls (k : Nat) (a0_0 : Int) (a0_1 : Int) (a0_2 : Int) (a0_3 : Int) (a0_4 : Bool) (a1 : Int) (a2 : Int) (r1 : Int) (r2 : Bool) (w : World) (h : impl_FirstStep.f k a0_0 a0_1 a0_2 a0_3 a0_4 a1 a2 = some (r1, r2)) :
  Calls Try.prog 99 #[.agg #[.int .i64 a0_0, .int .i64 a0_1, .int .i64 a0_2, .int .i64 a0_3, .bool a0_4], .int .i64 a1, .int .i64 a2] w fun e w' => e = .returned (.tuple #[.int .i64 r1, .bool r2]) ∧ Below w.heap.size w w' := by
 have hu62 := Try.underlying62
 have HB := xA (Below.refl w.heap.size w)
 have H : ((impl_First_isAt.f a0_0 a0_1 a0_2 a0_3 a0_4 a1).bind fun t432 => (if t432 = true then ((impl_isSample.f a2).bind fun t433 => (if t433 = true then ((impl_First_step.f k a0_0 a0_1 a0_2 a0_3 a0_4 a1 a2).bind fun t434 => (some (t434, true))) else (some (0, false)))) else (some (0, false)))) = some (r1, r2) := h
 clear h
 obtain ⟨t432, A4, H⟩ := xO H
 (try dsimp only at H)
 by_cases c5 : t432 = true
 rotate_left
 ·replace c5 := Bool.eq_false_iff.mpr c5
  subst c5
  rw [if_neg (show ¬ (false = true) by decide)] at H
  simp only [Option.some.injEq, Prod.mk.injEq] at H
  obtain ⟨rfl, rfl⟩ := H
  go_enter Try.func99, Try.ntmps99
  go_wp2_with (first | (refine xg 3 rfl ?_; refine xV 3 #[.int .i64 a0_0, .int .i64 a0_1, .int .i64 a0_2, .int .i64 a0_3, .bool a0_4] 62 ?_; intro gb431 hg w17 hbox hb; have BK431 := xA (hbox); have GW431 := xgw hg (below_size (xB HB.out)); have GE431 := GW431; replace HB := xA (below_step (xB HB.out) hb); clear hb hbox hg; replace hz431 := blk_cell BK431.out; replace hy431 := blk_frozen BK431.out) | (refine xG (some 10) Try.func283 #[.agg #[.int .i64 a0_0, .int .i64 a0_1, .int .i64 a0_2, .int .i64 a0_3, .bool a0_4], .int .i64 a1] ?_; (with_reducible refine (impl_First_isAt.calls a0_0 a0_1 a0_2 a0_3 a0_4 a1 false _ A4.out).mono ?_); rintro e w19 ⟨rfl, hb⟩; refine ⟨_, rfl, ?_⟩; replace BK431 := xkb BK431 hb; replace HB := xA (below_step (xB1 GE431.out HB.out) hb); (try clear hb)))
  go_ret2
  exact ⟨xr, xB1 GE431.out HB.out⟩

 subst c5
 rw [if_pos rfl] at H
 obtain ⟨t433, A6, H⟩ := xO H
 (try dsimp only at H)
 by_cases c7 : t433 = true
 rotate_left
 ·replace c7 := Bool.eq_false_iff.mpr c7
  subst c7
  rw [if_neg (show ¬ (false = true) by decide)] at H
  simp only [Option.some.injEq, Prod.mk.injEq] at H
  obtain ⟨rfl, rfl⟩ := H
  go_enter Try.func99, Try.ntmps99
  go_wp2_with (first | (refine xg 3 rfl ?_; refine xV 3 #[.int .i64 a0_0, .int .i64 a0_1, .int .i64 a0_2, .int .i64 a0_3, .bool a0_4] 62 ?_; intro gb431 hg w14 hbox hb; have BK431 := xA (hbox); have GW431 := xgw hg (below_size (xB HB.out)); have GE431 := GW431; replace HB := xA (below_step (xB HB.out) hb); clear hb hbox hg; replace hz431 := blk_cell BK431.out; replace hy431 := blk_frozen BK431.out) | (refine xG (some 10) Try.func283 #[.agg #[.int .i64 a0_0, .int .i64 a0_1, .int .i64 a0_2, .int .i64 a0_3, .bool a0_4], .int .i64 a1] ?_; (with_reducible refine (impl_First_isAt.calls a0_0 a0_1 a0_2 a0_3 a0_4 a1 true _ A4.out).mono ?_); rintro e w16 ⟨rfl, hb⟩; refine ⟨_, rfl, ?_⟩; replace BK431 := xkb BK431 hb; replace HB := xA (below_step (xB1 GE431.out HB.out) hb); (try clear hb)) | (go_at_call 300; (with_reducible refine (impl_isSample.calls a2 false _ A6.out).mono ?_); rintro e w' ⟨rfl, ⟨nd, rfl⟩⟩))
  go_ret2
  exact ⟨xr, xB1 GE431.out HB.out⟩
 subst c7
 rw [if_pos rfl] at H
 obtain ⟨t434, A8, H⟩ := xO H
 (try dsimp only at H)
 simp only [Option.some.injEq, Prod.mk.injEq] at H
 obtain ⟨rfl, rfl⟩ := H
 go_enter Try.func99, Try.ntmps99
 go_wp2_with (first | (refine xq rfl ?_; first | (refine xG (some 10) Try.func283 #[.agg #[.int .i64 a0_0, .int .i64 a0_1, .int .i64 a0_2, .int .i64 a0_3, .bool a0_4], .int .i64 a1] ?_; (with_reducible refine (impl_First_isAt.calls a0_0 a0_1 a0_2 a0_3 a0_4 a1 true _ A4.out).mono ?_); rintro e w11 ⟨rfl, hb⟩; refine ⟨_, rfl, ?_⟩; replace BK431 := xkb BK431 hb; replace HB := xA (below_step (xB1 GE431.out HB.out) hb); (try clear hb)) | (refine xG (some 20) Try.func293 #[.agg #[.int .i64 a0_0, .int .i64 a0_1, .int .i64 a0_2, .int .i64 a0_3, .bool a0_4], .int .i64 a1, .int .i64 a2] ?_; (with_reducible refine (impl_First_step.calls k a0_0 a0_1 a0_2 a0_3 a0_4 a1 a2 t434 _ A8.out).mono ?_); rintro e w13 ⟨rfl, hb⟩; refine ⟨_, rfl, ?_⟩; replace BK431 := xkb BK431 hb; replace HB := xA (below_step (xB1 GE431.out HB.out) hb); (try clear hb))) | (refine xg 3 rfl ?_; refine xV 3 #[.int .i64 a0_0, .int .i64 a0_1, .int .i64 a0_2, .int .i64 a0_3, .bool a0_4] 62 ?_; intro gb431 hg w9 hbox hb; have BK431 := xA (hbox); have GW431 := xgw hg (below_size (xB HB.out)); have GE431 := GW431; replace HB := xA (below_step (xB HB.out) hb); clear hb hbox hg; obtain ⟨hcz10_0, hcz10_1, hcz10_2, hcz10_3, hcz10_4, hfz10_0, hfz10_1, hfz10_2, hfz10_3, hfz10_4⟩ := xZ5 BK431.out) | (go_at_call 300; (with_reducible refine (impl_isSample.calls a2 true _ A6.out).mono ?_); rintro e w' ⟨rfl, ⟨nd, rfl⟩⟩; obtain ⟨hcz12_0, hcz12_1, hcz12_2, hcz12_3, hcz12_4, hfz12_0, hfz12_1, hfz12_2, hfz12_3, hfz12_4⟩ := xZ5 BK431.out))
 go_ret2
 exact ⟨xr, xB1 GE431.out HB.out⟩
/-! ### spec_l1Cur_sample: function 301 -/
def spec_l1Cur_sample.f (s0_0 : List Int) (s0_1 : Int) (s0_2 : Int) (a1 : Int) : Option (Int × Int × Int) := (spec_l1Cur_one.f s0_0 s0_1 s0_2 14).bind fun bt435 => (if bt435.1 = true then ((spec_l1Cur_among.f s0_0 bt435.2.1 bt435.2.2 (([100000, (-100000), 100001, (-4611686018427387904)] : List Int))).bind fun bt441 => (some (bt441.1, bt441.2.1, bt441.2.2))) else ((spec_l1Cur_pick.f s0_0 bt435.2.1 bt435.2.2 (wrap64 ((wrap64 (2 * a1)) + 1))).bind fun bt444 => (some (wrap64 (bt444.1 - a1), bt444.2.1, bt444.2.2))))
set_option maxHeartbeats 200000000 in
set_option maxRecDepth 100000 in
theorem spec_l1Cur_sample.calls (g : Nat) (s0_0 : List Int) (s0_1 : Int) (s0_2 : Int) (a1 : Int) (r1 : Int) (r2 : Int) (r3 : Int) (w0 w : World) (hI : IsS129 w0 w g s0_0 s0_1 s0_2) (hB : Below w0.heap.size w0 w) (h : spec_l1Cur_sample.f s0_0 s0_1 s0_2 a1 = some (r1, r2, r3)) :
  Calls Try.prog 301 #[.pointer (some ⟨g, 0, none⟩), .int .i64 a1] w fun e w' => e = .returned (.int .i64 r1) ∧ IsS129 w0 w' g s0_0 r2 r3 ∧ Below w0.heap.size w0 w' ∧ KeepBut w w' g none := by
 have HI0 := xA hI
 have HK := xA (KeepBut.refl w g none)
 have HL := xA hB.size
 clear hI
 have HW0 := xA hB.size
 have HB := xA hB
 clear hB
 have H : ((spec_l1Cur_one.f s0_0 s0_1 s0_2 14).bind fun bt435 => (if bt435.1 = true then ((spec_l1Cur_among.f s0_0 bt435.2.1 bt435.2.2 (([100000, (-100000), 100001, (-4611686018427387904)] : List Int))).bind fun bt441 => (some (bt441.1, bt441.2.1, bt441.2.2))) else ((spec_l1Cur_pick.f s0_0 bt435.2.1 bt435.2.2 (wrap64 ((wrap64 (2 * a1)) + 1))).bind fun bt444 => (some (wrap64 (bt444.1 - a1), bt444.2.1, bt444.2.2))))) = some (r1, r2, r3) := h
 clear h
 replace H := Option.bind_eq_some_iff.mp H
 obtain ⟨⟨t435, t436, t437⟩, A30, H⟩ := H
 (try dsimp only at H)
 have A3 := xA A30
 clear A30
 by_cases c4 : t435 = true
 rotate_left
 ·replace c4 := Bool.eq_false_iff.mpr c4
  subst c4
  rw [if_neg (show ¬ (false = true) by decide)] at H
  replace H := Option.bind_eq_some_iff.mp H
  obtain ⟨⟨t444, t445, t446⟩, A110, H⟩ := H
  (try dsimp only at H)
  have A11 := xA A110
  clear A110
  simp only [Option.some.injEq, Prod.mk.injEq] at H
  obtain ⟨rfl, rfl, rfl⟩ := H
  go_enter Try.func301, Try.ntmps301
  go_wp2_with (first | (refine xq rfl ?_; first | (refine xG (some 6) Try.func227 #[.pointer (some ⟨g, 0, none⟩), .int .i64 14] ?_; (with_reducible refine (spec_l1Cur_one.calls g s0_0 s0_1 s0_2 14 false t436 t437 w0 _ ?side1 ?side2 A3.out).mono ?_); (case side1 => exact xJ129_12_0 HI0.out); (case side2 => exact xB1 (IsS129.ge HI0.out) HB.out); rintro e w12 ⟨rfl, hi, hb, hk⟩; refine ⟨_, rfl, ?_⟩; replace HK := xA (KeepBut.trans (xH0 HK.out) hk (.inl rfl)); replace HB := xA (hb); replace HI0 := xA (hi); (try clear hb hk hi)) | (refine xG (some 14) Try.func229 #[.pointer (some ⟨g, 0, none⟩), .int .i64 (wrap64 ((wrap64 (2 * a1)) + 1))] ?_; (with_reducible refine (spec_l1Cur_pick.calls g s0_0 t436 t437 (wrap64 ((wrap64 (2 * a1)) + 1)) t444 t445 t446 w0 _ ?side1 ?side2 A11.out).mono ?_); (case side1 => exact xJ129_12_0 HI0.out); (case side2 => exact xB1 (IsS129.ge HI0.out) HB.out); rintro e w13 ⟨rfl, hi, hb, hk⟩; refine ⟨_, rfl, ?_⟩; replace HK := xA (KeepBut.trans (xH0 HK.out) hk (.inl rfl)); replace HB := xA (hb); replace HI0 := xA (hi); (try clear hb hk hi))))
  go_ret
  exact ⟨xr, xJ129_12_0 HI0.out, xB1 (IsS129.ge HI0.out) HB.out, xH0 HK.out⟩

 subst c4
 rw [if_pos rfl] at H
 obtain ⟨y438, hy438⟩ : ∃ y_ : List Int, y_ = (([100000, (-100000), 100001, (-4611686018427387904)] : List Int)) := ⟨_, rfl⟩
 replace H : ((spec_l1Cur_among.f s0_0 t436 t437 y438).bind fun bt441 => (some (bt441.1, bt441.2.1, bt441.2.2))) = some (r1, r2, r3) := by first | (rw [hy438]; with_reducible exact H) | (have H2_ := (Option.bind_some _ _).symm.trans H; rw [hy438]; with_reducible exact H2_) | (have H2_ := (Option.bind_some _ _).symm.trans H; with_reducible exact H2_) | with_reducible exact H | (rw [hy438]; exact H) | exact H
 have Ny438 := xA hy438
 clear hy438
 replace H := Option.bind_eq_some_iff.mp H
 obtain ⟨⟨t441, t442, t443⟩, A50, H⟩ := H
 (try dsimp only at H)
 have A5 := xA A50
 clear A50
 simp only [Option.some.injEq, Prod.mk.injEq] at H
 obtain ⟨rfl, rfl, rfl⟩ := H
 go_enter Try.func301, Try.ntmps301
 go_wp2_with (first | (refine xq rfl ?_; first | (refine xG (some 6) Try.func227 #[.pointer (some ⟨g, 0, none⟩), .int .i64 14] ?_; (with_reducible refine (spec_l1Cur_one.calls g s0_0 s0_1 s0_2 14 true t436 t437 w0 _ ?side1 ?side2 A3.out).mono ?_); (case side1 => exact xJ129_12_0 HI0.out); (case side2 => exact xB1 (IsS129.ge HI0.out) HB.out); rintro e w6 ⟨rfl, hi, hb, hk⟩; refine ⟨_, rfl, ?_⟩; replace HK := xA (KeepBut.trans (xH0 HK.out) hk (.inl rfl)); replace HB := xA (hb); replace HI0 := xA (hi); (try clear hb hk hi)) | (refine xG (some 9) Try.func228 #[.pointer (some ⟨g, 0, none⟩), .slice Ao9 y438.length co9] ?_; (with_reducible refine (spec_l1Cur_among.calls g s0_0 t436 t437 _ _ y438 t441 t442 t443 w0 _ ?side1 ?side2 ?side3 ?side4 ?side5 A5.out).mono ?_); (case side1 => exact xJ129_12_0 HI0.out); (case side2 => exact xB1 (IsS129.ge HI0.out) HB.out); (case side3 => exact xC ((Kd.R_reads' HO440.out).2.2)); (case side4 => exact (Kd.R_reads' HO440.out).2.1); (case side5 => exact far_slice (IsS129.own_ne HI0.out HO440.out (by decide))); rintro e w10 ⟨rfl, hi, hb, hk⟩; refine ⟨_, rfl, ?_⟩; replace HO440 := xA (Kd.R_mono (Kd.R_keep (IsS129.apart (show IsS129 w0 _ g s0_0 t436 t437 from xJ129_12_0 HI0.out) (xR HO440.out) (by decide)) hk (fun _ h => h.2)) (fun _ h => h.1)); replace HK := xA (KeepBut.trans (xH0 HK.out) hk (.inl rfl)); replace HB := xA (hb); replace HI0 := xA (hi); (try clear hb hk hi))) | ((with_reducible refine gate_dst (N := 8) rfl ?_); refine Kd.R_lit (Kd.int .i64) _ 3 ?hg (N := 8) ?hd (xs := ([100000, (-100000), 100001, (-4611686018427387904)] : List Int)) (inner := [.int .i64 100000, .int .i64 (-100000), .int .i64 100001, .int .i64 (-4611686018427387904)]) (ok := fun _ => True) (okp := fun _ => True) ?hr ?hp (fun _ hk => hk) trivial (Below.refl _ _) (Nat.le_refl _) (by simp) ?_; (case hd => rfl); (case hg => rfl); (case hr => first | (go_simp; done) | (go_simp; rfl)); (case hp => exact (Reps.one (show Kd.M (Kd.int .i64) _ _ _ 100000 [.int .i64 100000] from rfl) (Reps.one (show Kd.M (Kd.int .i64) _ _ _ (-100000) [.int .i64 (-100000)] from rfl) (Reps.one (show Kd.M (Kd.int .i64) _ _ _ 100001 [.int .i64 100001] from rfl) (Reps.one (show Kd.M (Kd.int .i64) _ _ _ (-4611686018427387904) [.int .i64 (-4611686018427387904)] from rfl) (Reps.none _ _)))))); intro v439 w7 ho8 hb hg_ hnew_; clear hg_ hnew_; (first | rw [← Ny438.out] at ho8 | (simp only [Int.reduceToNat] at ho8; rw [← Ny438.out] at ho8)); have HO440 := xA (Kd.R_lower ho8 (keep_size (w := w) (g := g) (row := none) (xH0 HK.out))); replace HK := xA (KeepBut.trans (xH0 HK.out) (KeepBut.of_below hb g none) (.inl rfl)); replace HB := xA (below_step (xB1 (IsS129.ge HI0.out) HB.out) hb); replace HI0 := xA (IsS129.below (xJ129_12_0 HI0.out) hb); clear hb ho8; obtain ⟨Ao9, co9, eo9⟩ := Kd.R_slice HO440.out; subst eo9))
 go_ret
 exact ⟨xr, xJ129_12_0 HI0.out, xB1 (IsS129.ge HI0.out) HB.out, xH0 HK.out⟩
end Go.Proofs.Ytjplcongellcmaa.PFnFirstRuns
