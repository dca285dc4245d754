/- What each Go function that the statement FnPairsRun reaches answers, proved call by call. No condition beyond those that the theorems print. (Written by wip/tools/xprint.py of this repo, over the kit's print.) -/
import Derived.Test.YtjplcongellcmaaPFnPairsRunx0
import Derived.Test.YtjplcongellcmaaPFnPairsRunx2
import Derived.Test.YtjplcongellcmaaPFnPairsRunx4
import Derived.Test.YtjplcongellcmaaPFnPairsRunx5
import Derived.Test.YtjplcongellcmaaPFnPairsRunx7
namespace Go.Proofs.Ytjplcongellcmaa.PFnPairsRun
open Go.RowKit Go.Proofs.YtjplcongellcmaaW.PrintWords Go.Proofs.YtjplcongellcmaaW.PrintLast Go.Proofs.YtjplcongellcmaaW.PrintMore
attribute [local go_sem] max2_int min2_int max_two min_two max_three min_three max_four min_four   -- for this text's walks alone
set_option linter.unusedVariables false
set_option linter.unusedSimpArgs false
def x18a0 : Array Bool := #[Zz,Zz,Zz,Zz,Zz,Zz,Zz,Zz,Zz,Zz,Zz,Zz,Zz,Zz,Zz,Zz,Zz]
def x18a1 : Array Bool := #[Yy,Zz,Zz,Zz,Zz,Zz,Zz,Zz,Zz,Zz,Zz,Zz,Zz,Zz,Zz,Zz,Zz]
def x18a2 : Array Bool := #[Yy,Zz,Zz,Yy,Zz,Zz,Zz,Zz,Zz,Zz,Zz,Zz,Zz,Zz,Zz,Zz,Zz]
def x18a3 : Array Bool := #[Yy,Yy,Zz,Yy,Zz,Zz,Zz,Zz,Zz,Zz,Zz,Zz,Zz,Zz,Zz,Zz,Zz]
def x18a4 : Array Bool := #[Yy,Yy,Yy,Yy,Zz,Zz,Zz,Zz,Zz,Zz,Zz,Zz,Zz,Zz,Zz,Zz,Zz]
def x18a5 : Array Bool := #[Yy,Yy,Yy,Yy,Yy,Zz,Zz,Zz,Zz,Zz,Zz,Zz,Zz,Zz,Zz,Zz,Zz]
def x18a6 : Array Bool := #[Yy,Yy,Yy,Yy,Yy,Yy,Zz,Zz,Zz,Zz,Zz,Zz,Zz,Zz,Zz,Zz,Zz]
def x18a7 : Array Bool := #[Yy,Yy,Yy,Yy,Yy,Yy,Yy,Zz,Zz,Zz,Zz,Zz,Zz,Zz,Zz,Zz,Zz]
def x18a8 : Array Bool := #[Yy,Yy,Yy,Yy,Yy,Yy,Yy,Yy,Zz,Zz,Zz,Zz,Zz,Zz,Zz,Zz,Zz]
def x18a9 : Array Bool := #[Yy,Yy,Yy,Yy,Yy,Yy,Yy,Yy,Yy,Zz,Zz,Zz,Zz,Zz,Zz,Zz,Zz]
def x18a10 : Array Bool := #[Yy,Yy,Yy,Yy,Yy,Yy,Yy,Yy,Yy,Yy,Zz,Zz,Zz,Zz,Zz,Zz,Zz]
def x18a11 : Array Bool := #[Yy,Yy,Yy,Yy,Yy,Yy,Yy,Yy,Yy,Yy,Yy,Zz,Zz,Zz,Zz,Zz,Zz]
def x18a12 : Array Bool := #[Yy,Yy,Yy,Yy,Yy,Yy,Yy,Yy,Yy,Yy,Yy,Yy,Zz,Zz,Zz,Zz,Zz]
def x18a13 : Array Bool := #[Yy,Yy,Yy,Yy,Yy,Yy,Yy,Yy,Yy,Yy,Yy,Yy,Yy,Zz,Zz,Zz,Zz]
def x18a14 : Array Bool := #[Yy,Yy,Yy,Yy,Yy,Yy,Yy,Yy,Yy,Yy,Yy,Yy,Yy,Yy,Zz,Zz,Zz]
def x18a15 : Array Bool := #[Yy,Yy,Yy,Yy,Yy,Yy,Yy,Yy,Yy,Yy,Yy,Yy,Yy,Yy,Yy,Zz,Zz]
def x18a16 : Array Bool := #[Yy,Yy,Yy,Yy,Yy,Yy,Yy,Yy,Yy,Yy,Yy,Yy,Yy,Yy,Yy,Yy,Zz]
def x18a17 : Array Bool := #[Yy,Yy,Yy,Yy,Yy,Yy,Yy,Yy,Yy,Yy,Yy,Yy,Yy,Yy,Yy,Yy,Yy]
def x18a18 : Array Bool := #[Yy,Yy,Yy,Yy,Yy,Yy,Yy,Zz,Zz,Yy,Zz,Zz,Zz,Zz,Zz,Zz,Zz]
def x18a19 : Array Bool := #[Yy,Yy,Yy,Yy,Yy,Yy,Yy,Zz,Zz,Yy,Yy,Zz,Zz,Zz,Zz,Zz,Zz]
def x18a20 : Array Bool := #[Yy,Yy,Yy,Yy,Yy,Yy,Yy,Yy,Zz,Yy,Yy,Zz,Zz,Zz,Zz,Zz,Zz]
def x18a21 : Array Bool := #[Yy,Yy,Yy,Yy,Yy,Yy,Yy,Yy,Zz,Yy,Yy,Yy,Zz,Zz,Zz,Zz,Zz]
def x18a22 : Array Bool := #[Yy,Yy,Yy,Yy,Yy,Yy,Yy,Yy,Zz,Yy,Yy,Yy,Yy,Zz,Zz,Zz,Zz]

/-! ### impl_IsInTriangle: function 149 -/
def impl_IsInTriangle.f (a0_0 : Int) (a0_1 : Int) (a0_2 : Int) (a0_3 : Int) (a0_4 : Int) (a0_5 : Bool) : Option (Bool × Bool) := (impl_isSecond.f a0_0 a0_1 a0_2 a0_3 a0_4 a0_5).bind fun t532 => (if t532 = true then (if 0 ≤ a0_2 then ((impl_size.f a0_1).bind fun t533 => (if t533 < (shl .i64 1 a0_2) then ((impl_size.f a0_0).bind fun t534 => (some (decide (t534 < (wrap64 ((shl .i64 1 a0_2) - a0_1))), true))) else (some (false, true)))) else (none)) else (some (false, false)))
def impl_IsInTriangle.T4 : Bool × List (List Nat × List Nat) := (true, [([], []), ([0], [0]), ([1], [1]), ([], []), ([2, 3], [2, 3]), ([4, 2], [4]), ([5], [5]), ([6, 5], [5, 6]), ([7, 5, 5], [5, 7]), ([5], [5]), ([5], [5]), ([10, 5], [5, 10]), ([9, 11, 5], [5, 9, 11]), ([8, 12, 5], [5, 8, 12]), ([5, 13], [5, 13]), ([14, 8, 0, 1, 2, 3, 4, 5, 6, 7, 8, 9, 10, 11, 12, 13, 14], [14]), ([15, 0, 1, 2, 3, 4, 5, 6, 7, 8, 9, 10, 11, 12, 13, 14, 15], [])])
def impl_IsInTriangle.B4 : List Nat := [0, 1, 3, 0, 15, 31, 63, 127, 255, 63, 63, 1087, 3647, 8191, 16383, 32767, 65535]
theorem impl_IsInTriangle.tab4 : rtab .any (opsOf Try.f149 4) = impl_IsInTriangle.T4 := by kernel_rfl
theorem impl_IsInTriangle.bits4 : waitsOk impl_IsInTriangle.T4.2 impl_IsInTriangle.B4 = true := by kernel_rfl
set_option maxHeartbeats 200000000 in
set_option maxRecDepth 100000 in
theorem impl_IsInTriangle.calls (a0_0 : Int) (a0_1 : Int) (a0_2 : Int) (a0_3 : Int) (a0_4 : Int) (a0_5 : Bool) (r1 : Bool) (r2 : Bool) (w : World) (h : impl_IsInTriangle.f a0_0 a0_1 a0_2 a0_3 a0_4 a0_5 = some (r1, r2)) :
  Calls Try.prog 149 #[.agg #[.int .i64 a0_0, .int .i64 a0_1, .int .i64 a0_2, .int .i64 a0_3, .int .i64 a0_4, .bool a0_5]] w fun e w' => e = .returned (.tuple #[.bool r1, .bool r2]) ∧ Below w.heap.size w w' := by
 have hu91 := Try.underlying91
 have HB := xA (Below.refl w.heap.size w)
 have H : ((impl_isSecond.f a0_0 a0_1 a0_2 a0_3 a0_4 a0_5).bind fun t532 => (if t532 = true then (if 0 ≤ a0_2 then ((impl_size.f a0_1).bind fun t533 => (if t533 < (shl .i64 1 a0_2) then ((impl_size.f a0_0).bind fun t534 => (some (decide (t534 < (wrap64 ((shl .i64 1 a0_2) - a0_1))), true))) else (some (false, true)))) else (none)) else (some (false, false)))) = some (r1, r2) := h
 clear h
 obtain ⟨t532, A2, H⟩ := xO H
 (try dsimp only at H)
 by_cases c3 : t532 = true
 rotate_left
 ·replace c3 := Bool.eq_false_iff.mpr c3
  subst c3
  rw [if_neg (show ¬ (false = true) by decide)] at H
  simp only [Option.some.injEq, Prod.mk.injEq] at H
  obtain ⟨rfl, rfl⟩ := H
  go_enter Try.func149, Try.ntmps149
  go_wp2_with (first | (refine xg 1 rfl ?_; refine xV 1 #[.int .i64 a0_0, .int .i64 a0_1, .int .i64 a0_2, .int .i64 a0_3, .int .i64 a0_4, .bool a0_5] 91 ?_; intro gb531 hg w22 hbox hb; have BK531 := xA (hbox); have GW531 := xgw hg (below_size (xB HB.out)); have GE531 := GW531; replace HB := xA (below_step (xB HB.out) hb); clear hb hbox hg; replace hz531 := blk_cell BK531.out; replace hy531 := blk_frozen BK531.out) | (refine xG (some 6) Try.func344 #[.agg #[.int .i64 a0_0, .int .i64 a0_1, .int .i64 a0_2, .int .i64 a0_3, .int .i64 a0_4, .bool a0_5]] ?_; (with_reducible refine (impl_isSecond.calls a0_0 a0_1 a0_2 a0_3 a0_4 a0_5 false _ A2.out).mono ?_); rintro e w24 ⟨rfl, hb⟩; refine ⟨_, rfl, ?_⟩; replace BK531 := xkb BK531 hb; replace HB := xA (below_step (xB1 GE531.out HB.out) hb); (try clear hb)))
  go_ret2
  exact ⟨xr, xB1 GE531.out HB.out⟩

 subst c3
 rw [if_pos rfl] at H
 by_cases c4 : 0 ≤ a0_2
 rotate_left
 ·rw [if_neg c4] at H
  exact absurd H (by simp)
 rw [if_pos c4] at H
 have c4b0 := eq_true c4
 have c4b1 : decide (0 ≤ a0_2) = true := decide_eq_true c4
 clear c4
 obtain ⟨ji5, hji5⟩ : ∃ j_ : Int, (shl .i64 1 a0_2) = j_ := ⟨_, rfl⟩
 (first | rw [hji5] at H | simp only [hji5] at H)
 (try rw [hji5] at A2)
 have hji5_ : (IntKind.i64.wrap (1 * 2 ^ min a0_2.toNat 64)) = ji5 := hji5
 have hji5z : a0_2 ≤ 64 → (IntKind.i64.wrap (1 * 2 ^ a0_2.toNat)) = ji5 := shl_small hji5
 have hji5u : (IntKind.i64.wrap (2 ^ min a0_2.toNat 64)) = ji5 := by have h_ := hji5_; rw [Int.one_mul] at h_; exact h_
 have hji5v : a0_2 ≤ 64 → (IntKind.i64.wrap (2 ^ a0_2.toNat)) = ji5 := fun hle_ => by have h_ := hji5z hle_; rw [Int.one_mul] at h_; exact h_
 have hji5y : (wrap64 (1 * 2 ^ min a0_2.toNat 64)) = ji5 := (i64_w _).symm.trans hji5_
 have hji5x : a0_2 ≤ 64 → (wrap64 (1 * 2 ^ a0_2.toNat)) = ji5 := fun h_ => (i64_w _).symm.trans (hji5z h_)
 obtain ⟨t533, A6, H⟩ := xO H
 (try dsimp only at H)
 by_cases c7 : t533 < (ji5)
 rotate_left
 ·rw [if_neg c7] at H
  have c7b0 : decide (t533 < (ji5)) = false := decide_eq_false c7
  clear c7
  simp only [Option.some.injEq, Prod.mk.injEq] at H
  obtain ⟨rfl, rfl⟩ := H
  go_enter Try.func149, Try.ntmps149
  try go_wp2_with (first | (refine xg 1 rfl ?_; refine xV 1 #[.int .i64 a0_0, .int .i64 a0_1, .int .i64 a0_2, .int .i64 a0_3, .int .i64 a0_4, .bool a0_5] 91 ?_; intro gb531 hg w16 hbox hb; have BK531 := xA (hbox); have GW531 := xgw hg (below_size (xB HB.out)); have GE531 := GW531; replace HB := xA (below_step (xB HB.out) hb); clear hb hbox hg; obtain ⟨hcz17_0, hcz17_1, hcz17_2, hcz17_3, hcz17_4, hcz17_5, hfz17_0, hfz17_1, hfz17_2, hfz17_3, hfz17_4, hfz17_5⟩ := xZ6 BK531.out) | (refine xG (some 6) Try.func344 #[.agg #[.int .i64 a0_0, .int .i64 a0_1, .int .i64 a0_2, .int .i64 a0_3, .int .i64 a0_4, .bool a0_5]] ?_; (with_reducible refine (impl_isSecond.calls a0_0 a0_1 a0_2 a0_3 a0_4 a0_5 true _ A2.out).mono ?_); rintro e w18 ⟨rfl, hb⟩; refine ⟨_, rfl, ?_⟩; replace BK531 := xkb BK531 hb; replace HB := xA (below_step (xB1 GE531.out HB.out) hb); (try clear hb); obtain ⟨hcz19_0, hcz19_1, hcz19_2, hcz19_3, hcz19_4, hcz19_5, hfz19_0, hfz19_1, hfz19_2, hfz19_3, hfz19_4, hfz19_5⟩ := xZ6 BK531.out))
  replace BK531 := xA (blk_drew BK531.out)
  replace HB := xA (below_drew1 HB.out)
  refine start_ (n := 17) (S := fun w' => w'.cell? ⟨gb531, 0, none⟩ = some (.int .i64 a0_0) ∧ w'.cell? ⟨gb531, 1, none⟩ = some (.int .i64 a0_1) ∧ w'.cell? ⟨gb531, 2, none⟩ = some (.int .i64 a0_2) ∧ w'.cell? ⟨gb531, 3, none⟩ = some (.int .i64 a0_3) ∧ w'.cell? ⟨gb531, 4, none⟩ = some (.int .i64 a0_4) ∧ w'.cell? ⟨gb531, 5, none⟩ = some (.bool a0_5)) (ds := []) x18a0 (by kernel_rfl) rfl rfl ⟨(blk_cell BK531.out 0).trans rfl, (blk_cell BK531.out 1).trans rfl, (blk_cell BK531.out 2).trans rfl, (blk_cell BK531.out 3).trans rfl, (blk_cell BK531.out 4).trans rfl, (blk_cell BK531.out 5).trans rfl⟩ (fun hHeld => ?_); refine with_tabW impl_IsInTriangle.tab4 impl_IsInTriangle.bits4 (fun HT_ HW_ => ?_)
  generalize w18.drew = w20 at BK531 HB hHeld ⊢
  refine xP 0 11 x18a1 ?_
  refine xP 3 14 x18a2 ?_
  refine xT6 hHeld 1 12 x18a3 ?_
  refine xU 2 13 x18a4 (fun K hK => ?_)
  refine xY Try.func272 #[.int .i64 a0_1] ?_
  with_reducible refine (impl_size.calls a0_1 t533 _ A6.out).mono ?_
  rintro e w21 ⟨rfl, hb⟩
  refine ⟨_, rfl, ?_⟩
  replace BK531 := xkb BK531 hb
  replace HB := xA (below_step (xB1 GE531.out HB.out) hb)
  (try clear hb); (try clear hb2); (try clear hk); (try clear hi)
  refine hK.out _ _ ⟨(blk_cell BK531.out 0).trans rfl, (blk_cell BK531.out 1).trans rfl, (blk_cell BK531.out 2).trans rfl, (blk_cell BK531.out 3).trans rfl, (blk_cell BK531.out 4).trans rfl, (blk_cell BK531.out 5).trans rfl⟩ (fun hHeld => ?_)
  clear hK K
  refine xN ?_
  refine xP 4 15 x18a5 ?_
  refine xP 5 16 x18a6 ?_
  refine pure_ (i := 6) (N := some 17) (v := undef) (a' := ?_) x18a7 rfl rfl (any_of HT_.out (by kernel_rfl)) (fun _ _ _ h => h) (Or.inr ⟨by rfl, rfl⟩) ?_ ?_
  rotate_left
  ·exact xE
  refine pure_ (i := 7) (N := some 18) (v := undef) (a' := ?_) x18a8 rfl rfl (any_of HT_.out (by kernel_rfl)) (fun _ _ _ h => h) (Or.inr ⟨by rfl, rfl⟩) ?_ ?_
  rotate_left
  ·exact xE
  refine pure_ (i := 8) (N := some 19) (v := undef) (a' := ?_) x18a9 rfl rfl (any_of HT_.out (by kernel_rfl)) (fun _ _ _ h => h) (Or.inr ⟨by rfl, rfl⟩) ?_ ?_
  rotate_left
  ·exact xE
  refine pure_ (i := 9) (N := some 20) (v := undef) (a' := ?_) x18a10 rfl rfl (any_of HT_.out (by kernel_rfl)) (fun _ _ _ h => h) (Or.inr ⟨by rfl, rfl⟩) ?_ ?_
  rotate_left
  ·exact xE
  refine pure_ (i := 10) (N := some 21) (v := undef) (a' := ?_) x18a11 rfl rfl (any_of HT_.out (by kernel_rfl)) (fun _ _ _ h => h) (Or.inr ⟨by rfl, rfl⟩) ?_ ?_
  rotate_left
  ·exact xE
  refine pure_ (i := 11) (N := some 22) (v := undef) (a' := ?_) x18a12 rfl rfl (any_of HT_.out (by kernel_rfl)) (fun _ _ _ h => h) (Or.inr ⟨by rfl, rfl⟩) ?_ ?_
  rotate_left
  ·exact xE
  refine pure_ (i := 12) (N := some 23) (v := undef) (a' := ?_) x18a13 rfl rfl (any_of HT_.out (by kernel_rfl)) (fun _ _ _ h => h) (Or.inr ⟨by rfl, rfl⟩) ?_ ?_
  rotate_left
  ·exact xE
  refine pure_ (i := 13) (N := some 24) (v := undef) (a' := ?_) x18a14 rfl rfl (any_of HT_.out (by kernel_rfl)) (fun _ _ _ h => h) (Or.inr ⟨by rfl, rfl⟩) ?_ ?_
  rotate_left
  ·exact xE
  refine xP 14 25 x18a15 ?_
  refine xP 15 2 x18a16 ?_
  refine xP 16 3 x18a17 ?_
  refine xDn ?_
  try go_wp2
  go_ret2
  exact ⟨by first | rfl | (simp [errW_none, errW_some] <;> rfl) | (simp only [← hji5]; first | rfl | (simp [errW_none, errW_some] <;> rfl)) | (simp [*, errW_none, errW_some] <;> rfl), xB1 GE531.out HB.out⟩
 rw [if_pos c7] at H
 have c7b0 : decide (t533 < (ji5)) = true := decide_eq_true c7
 clear c7
 obtain ⟨t534, A8, H⟩ := xO H
 (try dsimp only at H)
 simp only [Option.some.injEq, Prod.mk.injEq] at H
 obtain ⟨rfl, rfl⟩ := H
 go_enter Try.func149, Try.ntmps149
 try go_wp2_with (first | (refine xg 1 rfl ?_; refine xV 1 #[.int .i64 a0_0, .int .i64 a0_1, .int .i64 a0_2, .int .i64 a0_3, .int .i64 a0_4, .bool a0_5] 91 ?_; intro gb531 hg w9 hbox hb; have BK531 := xA (hbox); have GW531 := xgw hg (below_size (xB HB.out)); have GE531 := GW531; replace HB := xA (below_step (xB HB.out) hb); clear hb hbox hg; obtain ⟨hcz10_0, hcz10_1, hcz10_2, hcz10_3, hcz10_4, hcz10_5, hfz10_0, hfz10_1, hfz10_2, hfz10_3, hfz10_4, hfz10_5⟩ := xZ6 BK531.out) | (refine xG (some 6) Try.func344 #[.agg #[.int .i64 a0_0, .int .i64 a0_1, .int .i64 a0_2, .int .i64 a0_3, .int .i64 a0_4, .bool a0_5]] ?_; (with_reducible refine (impl_isSecond.calls a0_0 a0_1 a0_2 a0_3 a0_4 a0_5 true _ A2.out).mono ?_); rintro e w11 ⟨rfl, hb⟩; refine ⟨_, rfl, ?_⟩; replace BK531 := xkb BK531 hb; replace HB := xA (below_step (xB1 GE531.out HB.out) hb); (try clear hb); obtain ⟨hcz12_0, hcz12_1, hcz12_2, hcz12_3, hcz12_4, hcz12_5, hfz12_0, hfz12_1, hfz12_2, hfz12_3, hfz12_4, hfz12_5⟩ := xZ6 BK531.out))
 replace BK531 := xA (blk_drew BK531.out)
 replace HB := xA (below_drew1 HB.out)
 refine start_ (n := 17) (S := fun w' => w'.cell? ⟨gb531, 0, none⟩ = some (.int .i64 a0_0) ∧ w'.cell? ⟨gb531, 1, none⟩ = some (.int .i64 a0_1) ∧ w'.cell? ⟨gb531, 2, none⟩ = some (.int .i64 a0_2) ∧ w'.cell? ⟨gb531, 3, none⟩ = some (.int .i64 a0_3) ∧ w'.cell? ⟨gb531, 4, none⟩ = some (.int .i64 a0_4) ∧ w'.cell? ⟨gb531, 5, none⟩ = some (.bool a0_5)) (ds := []) x18a0 (by kernel_rfl) rfl rfl ⟨(blk_cell BK531.out 0).trans rfl, (blk_cell BK531.out 1).trans rfl, (blk_cell BK531.out 2).trans rfl, (blk_cell BK531.out 3).trans rfl, (blk_cell BK531.out 4).trans rfl, (blk_cell BK531.out 5).trans rfl⟩ (fun hHeld => ?_); refine with_tabW impl_IsInTriangle.tab4 impl_IsInTriangle.bits4 (fun HT_ HW_ => ?_)
 generalize w11.drew = w13 at BK531 HB hHeld ⊢
 refine xP 0 11 x18a1 ?_
 refine xP 3 14 x18a2 ?_
 refine xT6 hHeld 1 12 x18a3 ?_
 refine xU 2 13 x18a4 (fun K hK => ?_)
 refine xY Try.func272 #[.int .i64 a0_1] ?_
 with_reducible refine (impl_size.calls a0_1 t533 _ A6.out).mono ?_
 rintro e w14 ⟨rfl, hb⟩
 refine ⟨_, rfl, ?_⟩
 replace BK531 := xkb BK531 hb
 replace HB := xA (below_step (xB1 GE531.out HB.out) hb)
 (try clear hb); (try clear hb2); (try clear hk); (try clear hi)
 refine hK.out _ _ ⟨(blk_cell BK531.out 0).trans rfl, (blk_cell BK531.out 1).trans rfl, (blk_cell BK531.out 2).trans rfl, (blk_cell BK531.out 3).trans rfl, (blk_cell BK531.out 4).trans rfl, (blk_cell BK531.out 5).trans rfl⟩ (fun hHeld => ?_)
 clear hK K
 refine xN ?_
 refine xP 4 15 x18a5 ?_
 refine xP 5 16 x18a6 ?_
 refine xP 6 17 x18a7 ?_
 refine xP 9 20 x18a18 ?_
 refine xP 10 21 x18a19 ?_
 refine xT6 hHeld 7 18 x18a20 ?_
 refine xT6 hHeld 11 22 x18a21 ?_
 refine xP 12 23 x18a22 ?_
 refine xU 8 19 x18a13 (fun K hK => ?_)
 refine xY Try.func272 #[.int .i64 a0_0] ?_
 with_reducible refine (impl_size.calls a0_0 t534 _ A8.out).mono ?_
 rintro e w15 ⟨rfl, hb⟩
 refine ⟨_, rfl, ?_⟩
 replace BK531 := xkb BK531 hb
 replace HB := xA (below_step (xB1 GE531.out HB.out) hb)
 (try clear hb); (try clear hb2); (try clear hk); (try clear hi)
 refine hK.out _ _ ⟨(blk_cell BK531.out 0).trans rfl, (blk_cell BK531.out 1).trans rfl, (blk_cell BK531.out 2).trans rfl, (blk_cell BK531.out 3).trans rfl, (blk_cell BK531.out 4).trans rfl, (blk_cell BK531.out 5).trans rfl⟩ (fun hHeld => ?_)
 clear hK K
 refine xN ?_
 refine xP 13 24 x18a14 ?_
 refine xP 14 25 x18a15 ?_
 refine xP 15 2 x18a16 ?_
 refine xP 16 3 x18a17 ?_
 refine xDn ?_
 try go_wp2
 go_ret2
 exact ⟨by first | rfl | (simp [errW_none, errW_some] <;> rfl) | (simp only [← hji5]; first | rfl | (simp [errW_none, errW_some] <;> rfl)) | (simp [*, errW_none, errW_some] <;> rfl), xB1 GE531.out HB.out⟩
/-! ### impl_RootsOf: function 150 -/
def impl_RootsOf.f (a0_0 : Int) (a0_1 : Int) (a0_2 : Int) (a0_3 : Int) (a0_4 : Int) (a0_5 : Bool) : Option (ByteArray × Bool) := (impl_isSecond.f a0_0 a0_1 a0_2 a0_3 a0_4 a0_5).bind fun t536 => (if t536 = true then (if 0 ≤ a0_2 then (if (wrap64 ((wrap64 (a0_0 * a0_0)) + (shl .i64 (wrap64 (4 * a0_1)) a0_2))) > 0 then (some ((⟨#[116, 119, 111]⟩ : ByteArray), true)) else (if (wrap64 ((wrap64 (a0_0 * a0_0)) + (shl .i64 (wrap64 (4 * a0_1)) a0_2))) < 0 then (some ((⟨#[116, 117, 114, 110]⟩ : ByteArray), true)) else (some ((⟨#[111, 110, 101]⟩ : ByteArray), true)))) else (none)) else (some ((⟨#[]⟩ : ByteArray), false)))
set_option maxHeartbeats 200000000 in
set_option maxRecDepth 100000 in
theorem impl_RootsOf.calls (a0_0 : Int) (a0_1 : Int) (a0_2 : Int) (a0_3 : Int) (a0_4 : Int) (a0_5 : Bool) (r1 : ByteArray) (r2 : Bool) (w : World) (h : impl_RootsOf.f a0_0 a0_1 a0_2 a0_3 a0_4 a0_5 = some (r1, r2)) :
  Calls Try.prog 150 #[.agg #[.int .i64 a0_0, .int .i64 a0_1, .int .i64 a0_2, .int .i64 a0_3, .int .i64 a0_4, .bool a0_5]] w fun e w' => e = .returned (.tuple #[.string r1, .bool r2]) ∧ Below w.heap.size w w' := by
 have hu91 := Try.underlying91
 have HB := xA (Below.refl w.heap.size w)
 have H : ((impl_isSecond.f a0_0 a0_1 a0_2 a0_3 a0_4 a0_5).bind fun t536 => (if t536 = true then (if 0 ≤ a0_2 then (if (wrap64 ((wrap64 (a0_0 * a0_0)) + (shl .i64 (wrap64 (4 * a0_1)) a0_2))) > 0 then (some ((⟨#[116, 119, 111]⟩ : ByteArray), true)) else (if (wrap64 ((wrap64 (a0_0 * a0_0)) + (shl .i64 (wrap64 (4 * a0_1)) a0_2))) < 0 then (some ((⟨#[116, 117, 114, 110]⟩ : ByteArray), true)) else (some ((⟨#[111, 110, 101]⟩ : ByteArray), true)))) else (none)) else (some ((⟨#[]⟩ : ByteArray), false)))) = some (r1, r2) := h
 clear h
 obtain ⟨t536, A2, H⟩ := xO H
 (try dsimp only at H)
 by_cases c3 : t536 = true
 rotate_left
 ·replace c3 := Bool.eq_false_iff.mpr c3
  subst c3
  rw [if_neg (show ¬ (false = true) by decide)] at H
  simp only [Option.some.injEq, Prod.mk.injEq] at H
  obtain ⟨rfl, rfl⟩ := H
  go_enter Try.func150, Try.ntmps150
  go_wp2_with (first | (refine xg 1 rfl ?_; refine xV 1 #[.int .i64 a0_0, .int .i64 a0_1, .int .i64 a0_2, .int .i64 a0_3, .int .i64 a0_4, .bool a0_5] 91 ?_; intro gb535 hg w20 hbox hb; have BK535 := xA (hbox); have GW535 := xgw hg (below_size (xB HB.out)); have GE535 := GW535; replace HB := xA (below_step (xB HB.out) hb); clear hb hbox hg; obtain ⟨hcz21_0, hcz21_1, hcz21_2, hcz21_3, hcz21_4, hcz21_5, hfz21_0, hfz21_1, hfz21_2, hfz21_3, hfz21_4, hfz21_5⟩ := xZ6 BK535.out) | (go_at_call 344; (with_reducible refine (impl_isSecond.calls a0_0 a0_1 a0_2 a0_3 a0_4 a0_5 false _ A2.out).mono ?_); rintro e w22 ⟨rfl, hb⟩; replace BK535 := xkb BK535 hb; replace HB := xA (below_step (xB1 GE535.out HB.out) hb); (try clear hb)))
  repeat (go_quiet (first | (refine xg 1 rfl ?_; refine xV 1 #[.int .i64 a0_0, .int .i64 a0_1, .int .i64 a0_2, .int .i64 a0_3, .int .i64 a0_4, .bool a0_5] 91 ?_; intro gb535 hg w20 hbox hb; have BK535 := xA (hbox); have GW535 := xgw hg (below_size (xB HB.out)); have GE535 := GW535; replace HB := xA (below_step (xB HB.out) hb); clear hb hbox hg; obtain ⟨hcz21_0, hcz21_1, hcz21_2, hcz21_3, hcz21_4, hcz21_5, hfz21_0, hfz21_1, hfz21_2, hfz21_3, hfz21_4, hfz21_5⟩ := xZ6 BK535.out) | (go_at_call 344; (with_reducible refine (impl_isSecond.calls a0_0 a0_1 a0_2 a0_3 a0_4 a0_5 false _ A2.out).mono ?_); rintro e w22 ⟨rfl, hb⟩; replace BK535 := xkb BK535 hb; replace HB := xA (below_step (xB1 GE535.out HB.out) hb); (try clear hb))); try go_wp2_with (first | (refine xg 1 rfl ?_; refine xV 1 #[.int .i64 a0_0, .int .i64 a0_1, .int .i64 a0_2, .int .i64 a0_3, .int .i64 a0_4, .bool a0_5] 91 ?_; intro gb535 hg w20 hbox hb; have BK535 := xA (hbox); have GW535 := xgw hg (below_size (xB HB.out)); have GE535 := GW535; replace HB := xA (below_step (xB HB.out) hb); clear hb hbox hg; obtain ⟨hcz21_0, hcz21_1, hcz21_2, hcz21_3, hcz21_4, hcz21_5, hfz21_0, hfz21_1, hfz21_2, hfz21_3, hfz21_4, hfz21_5⟩ := xZ6 BK535.out) | (go_at_call 344; (with_reducible refine (impl_isSecond.calls a0_0 a0_1 a0_2 a0_3 a0_4 a0_5 false _ A2.out).mono ?_); rintro e w22 ⟨rfl, hb⟩; replace BK535 := xkb BK535 hb; replace HB := xA (below_step (xB1 GE535.out HB.out) hb); (try clear hb))))
  go_ret2
  exact ⟨xr, xB1 GE535.out HB.out⟩

 subst c3
 rw [if_pos rfl] at H
 by_cases c4 : 0 ≤ a0_2
 rotate_left
 ·rw [if_neg c4] at H
  exact absurd H (by simp)
 rw [if_pos c4] at H
 have c4b0 := eq_true c4
 have c4b1 : decide (0 ≤ a0_2) = true := decide_eq_true c4
 clear c4
 obtain ⟨ji5, hji5⟩ : ∃ j_ : Int, (shl .i64 (wrap64 (4 * a0_1)) a0_2) = j_ := ⟨_, rfl⟩
 (first | rw [hji5] at H | simp only [hji5] at H)
 (try rw [hji5] at A2)
 obtain ⟨hji5_, hji5z, hji5y, hji5x⟩ := xSh hji5
 by_cases c6 : (wrap64 ((wrap64 (a0_0 * a0_0)) + (ji5))) > 0
 ·rw [if_pos c6] at H
  have c6b0 : decide (0 < (wrap64 ((wrap64 (a0_0 * a0_0)) + (ji5)))) = true := decide_eq_true c6
  clear c6
  simp only [Option.some.injEq, Prod.mk.injEq] at H
  obtain ⟨rfl, rfl⟩ := H
  go_enter Try.func150, Try.ntmps150
  go_wp2_with (first | (refine xg 1 rfl ?_; refine xV 1 #[.int .i64 a0_0, .int .i64 a0_1, .int .i64 a0_2, .int .i64 a0_3, .int .i64 a0_4, .bool a0_5] 91 ?_; intro gb535 hg w7 hbox hb; have BK535 := xA (hbox); have GW535 := xgw hg (below_size (xB HB.out)); have GE535 := GW535; replace HB := xA (below_step (xB HB.out) hb); clear hb hbox hg; obtain ⟨hcz8_0, hcz8_1, hcz8_2, hcz8_3, hcz8_4, hcz8_5, hfz8_0, hfz8_1, hfz8_2, hfz8_3, hfz8_4, hfz8_5⟩ := xZ6 BK535.out) | (go_at_call 344; (with_reducible refine (impl_isSecond.calls a0_0 a0_1 a0_2 a0_3 a0_4 a0_5 true _ A2.out).mono ?_); rintro e w9 ⟨rfl, hb⟩; replace BK535 := xkb BK535 hb; replace HB := xA (below_step (xB1 GE535.out HB.out) hb); (try clear hb); obtain ⟨hcz10_0, hcz10_1, hcz10_2, hcz10_3, hcz10_4, hcz10_5, hfz10_0, hfz10_1, hfz10_2, hfz10_3, hfz10_4, hfz10_5⟩ := xZ6 BK535.out))
  repeat (go_quiet (first | (refine xg 1 rfl ?_; refine xV 1 #[.int .i64 a0_0, .int .i64 a0_1, .int .i64 a0_2, .int .i64 a0_3, .int .i64 a0_4, .bool a0_5] 91 ?_; intro gb535 hg w7 hbox hb; have BK535 := xA (hbox); have GW535 := xgw hg (below_size (xB HB.out)); have GE535 := GW535; replace HB := xA (below_step (xB HB.out) hb); clear hb hbox hg; obtain ⟨hcz8_0, hcz8_1, hcz8_2, hcz8_3, hcz8_4, hcz8_5, hfz8_0, hfz8_1, hfz8_2, hfz8_3, hfz8_4, hfz8_5⟩ := xZ6 BK535.out) | (go_at_call 344; (with_reducible refine (impl_isSecond.calls a0_0 a0_1 a0_2 a0_3 a0_4 a0_5 true _ A2.out).mono ?_); rintro e w9 ⟨rfl, hb⟩; replace BK535 := xkb BK535 hb; replace HB := xA (below_step (xB1 GE535.out HB.out) hb); (try clear hb); obtain ⟨hcz10_0, hcz10_1, hcz10_2, hcz10_3, hcz10_4, hcz10_5, hfz10_0, hfz10_1, hfz10_2, hfz10_3, hfz10_4, hfz10_5⟩ := xZ6 BK535.out)); try go_wp2_with (first | (refine xg 1 rfl ?_; refine xV 1 #[.int .i64 a0_0, .int .i64 a0_1, .int .i64 a0_2, .int .i64 a0_3, .int .i64 a0_4, .bool a0_5] 91 ?_; intro gb535 hg w7 hbox hb; have BK535 := xA (hbox); have GW535 := xgw hg (below_size (xB HB.out)); have GE535 := GW535; replace HB := xA (below_step (xB HB.out) hb); clear hb hbox hg; obtain ⟨hcz8_0, hcz8_1, hcz8_2, hcz8_3, hcz8_4, hcz8_5, hfz8_0, hfz8_1, hfz8_2, hfz8_3, hfz8_4, hfz8_5⟩ := xZ6 BK535.out) | (go_at_call 344; (with_reducible refine (impl_isSecond.calls a0_0 a0_1 a0_2 a0_3 a0_4 a0_5 true _ A2.out).mono ?_); rintro e w9 ⟨rfl, hb⟩; replace BK535 := xkb BK535 hb; replace HB := xA (below_step (xB1 GE535.out HB.out) hb); (try clear hb); obtain ⟨hcz10_0, hcz10_1, hcz10_2, hcz10_3, hcz10_4, hcz10_5, hfz10_0, hfz10_1, hfz10_2, hfz10_3, hfz10_4, hfz10_5⟩ := xZ6 BK535.out)))
  go_ret2
  exact ⟨by first | rfl | (simp [errW_none, errW_some] <;> rfl) | (simp only [← hji5]; first | rfl | (simp [errW_none, errW_some] <;> rfl)) | (simp [*, errW_none, errW_some] <;> rfl), xB1 GE535.out HB.out⟩
 rw [if_neg c6] at H
 have c6b0 : decide (0 < (wrap64 ((wrap64 (a0_0 * a0_0)) + (ji5)))) = false := decide_eq_false c6
 clear c6
 by_cases c11 : (wrap64 ((wrap64 (a0_0 * a0_0)) + (ji5))) < 0
 rotate_left
 ·rw [if_neg c11] at H
  have c11b0 : decide ((wrap64 ((wrap64 (a0_0 * a0_0)) + (ji5))) < 0) = false := decide_eq_false c11
  clear c11
  simp only [Option.some.injEq, Prod.mk.injEq] at H
  obtain ⟨rfl, rfl⟩ := H
  go_enter Try.func150, Try.ntmps150
  go_wp2_with (first | (refine xg 1 rfl ?_; refine xV 1 #[.int .i64 a0_0, .int .i64 a0_1, .int .i64 a0_2, .int .i64 a0_3, .int .i64 a0_4, .bool a0_5] 91 ?_; intro gb535 hg w16 hbox hb; have BK535 := xA (hbox); have GW535 := xgw hg (below_size (xB HB.out)); have GE535 := GW535; replace HB := xA (below_step (xB HB.out) hb); clear hb hbox hg; obtain ⟨hcz17_0, hcz17_1, hcz17_2, hcz17_3, hcz17_4, hcz17_5, hfz17_0, hfz17_1, hfz17_2, hfz17_3, hfz17_4, hfz17_5⟩ := xZ6 BK535.out) | (go_at_call 344; (with_reducible refine (impl_isSecond.calls a0_0 a0_1 a0_2 a0_3 a0_4 a0_5 true _ A2.out).mono ?_); rintro e w18 ⟨rfl, hb⟩; replace BK535 := xkb BK535 hb; replace HB := xA (below_step (xB1 GE535.out HB.out) hb); (try clear hb); obtain ⟨hcz19_0, hcz19_1, hcz19_2, hcz19_3, hcz19_4, hcz19_5, hfz19_0, hfz19_1, hfz19_2, hfz19_3, hfz19_4, hfz19_5⟩ := xZ6 BK535.out))
  repeat (go_quiet (first | (refine xg 1 rfl ?_; refine xV 1 #[.int .i64 a0_0, .int .i64 a0_1, .int .i64 a0_2, .int .i64 a0_3, .int .i64 a0_4, .bool a0_5] 91 ?_; intro gb535 hg w16 hbox hb; have BK535 := xA (hbox); have GW535 := xgw hg (below_size (xB HB.out)); have GE535 := GW535; replace HB := xA (below_step (xB HB.out) hb); clear hb hbox hg; obtain ⟨hcz17_0, hcz17_1, hcz17_2, hcz17_3, hcz17_4, hcz17_5, hfz17_0, hfz17_1, hfz17_2, hfz17_3, hfz17_4, hfz17_5⟩ := xZ6 BK535.out) | (go_at_call 344; (with_reducible refine (impl_isSecond.calls a0_0 a0_1 a0_2 a0_3 a0_4 a0_5 true _ A2.out).mono ?_); rintro e w18 ⟨rfl, hb⟩; replace BK535 := xkb BK535 hb; replace HB := xA (below_step (xB1 GE535.out HB.out) hb); (try clear hb); obtain ⟨hcz19_0, hcz19_1, hcz19_2, hcz19_3, hcz19_4, hcz19_5, hfz19_0, hfz19_1, hfz19_2, hfz19_3, hfz19_4, hfz19_5⟩ := xZ6 BK535.out)); try go_wp2_with (first | (refine xg 1 rfl ?_; refine xV 1 #[.int .i64 a0_0, .int .i64 a0_1, .int .i64 a0_2, .int .i64 a0_3, .int .i64 a0_4, .bool a0_5] 91 ?_; intro gb535 hg w16 hbox hb; have BK535 := xA (hbox); have GW535 := xgw hg (below_size (xB HB.out)); have GE535 := GW535; replace HB := xA (below_step (xB HB.out) hb); clear hb hbox hg; obtain ⟨hcz17_0, hcz17_1, hcz17_2, hcz17_3, hcz17_4, hcz17_5, hfz17_0, hfz17_1, hfz17_2, hfz17_3, hfz17_4, hfz17_5⟩ := xZ6 BK535.out) | (go_at_call 344; (with_reducible refine (impl_isSecond.calls a0_0 a0_1 a0_2 a0_3 a0_4 a0_5 true _ A2.out).mono ?_); rintro e w18 ⟨rfl, hb⟩; replace BK535 := xkb BK535 hb; replace HB := xA (below_step (xB1 GE535.out HB.out) hb); (try clear hb); obtain ⟨hcz19_0, hcz19_1, hcz19_2, hcz19_3, hcz19_4, hcz19_5, hfz19_0, hfz19_1, hfz19_2, hfz19_3, hfz19_4, hfz19_5⟩ := xZ6 BK535.out)))
  go_ret2
  exact ⟨by first | rfl | (simp [errW_none, errW_some] <;> rfl) | (simp only [← hji5]; first | rfl | (simp [errW_none, errW_some] <;> rfl)) | (simp [*, errW_none, errW_some] <;> rfl), xB1 GE535.out HB.out⟩
 rw [if_pos c11] at H
 have c11b0 : decide ((wrap64 ((wrap64 (a0_0 * a0_0)) + (ji5))) < 0) = true := decide_eq_true c11
 clear c11
 simp only [Option.some.injEq, Prod.mk.injEq] at H
 obtain ⟨rfl, rfl⟩ := H
 go_enter Try.func150, Try.ntmps150
 go_wp2_with (first | (refine xg 1 rfl ?_; refine xV 1 #[.int .i64 a0_0, .int .i64 a0_1, .int .i64 a0_2, .int .i64 a0_3, .int .i64 a0_4, .bool a0_5] 91 ?_; intro gb535 hg w12 hbox hb; have BK535 := xA (hbox); have GW535 := xgw hg (below_size (xB HB.out)); have GE535 := GW535; replace HB := xA (below_step (xB HB.out) hb); clear hb hbox hg; obtain ⟨hcz13_0, hcz13_1, hcz13_2, hcz13_3, hcz13_4, hcz13_5, hfz13_0, hfz13_1, hfz13_2, hfz13_3, hfz13_4, hfz13_5⟩ := xZ6 BK535.out) | (go_at_call 344; (with_reducible refine (impl_isSecond.calls a0_0 a0_1 a0_2 a0_3 a0_4 a0_5 true _ A2.out).mono ?_); rintro e w14 ⟨rfl, hb⟩; replace BK535 := xkb BK535 hb; replace HB := xA (below_step (xB1 GE535.out HB.out) hb); (try clear hb); obtain ⟨hcz15_0, hcz15_1, hcz15_2, hcz15_3, hcz15_4, hcz15_5, hfz15_0, hfz15_1, hfz15_2, hfz15_3, hfz15_4, hfz15_5⟩ := xZ6 BK535.out))
 repeat (go_quiet (first | (refine xg 1 rfl ?_; refine xV 1 #[.int .i64 a0_0, .int .i64 a0_1, .int .i64 a0_2, .int .i64 a0_3, .int .i64 a0_4, .bool a0_5] 91 ?_; intro gb535 hg w12 hbox hb; have BK535 := xA (hbox); have GW535 := xgw hg (below_size (xB HB.out)); have GE535 := GW535; replace HB := xA (below_step (xB HB.out) hb); clear hb hbox hg; obtain ⟨hcz13_0, hcz13_1, hcz13_2, hcz13_3, hcz13_4, hcz13_5, hfz13_0, hfz13_1, hfz13_2, hfz13_3, hfz13_4, hfz13_5⟩ := xZ6 BK535.out) | (go_at_call 344; (with_reducible refine (impl_isSecond.calls a0_0 a0_1 a0_2 a0_3 a0_4 a0_5 true _ A2.out).mono ?_); rintro e w14 ⟨rfl, hb⟩; replace BK535 := xkb BK535 hb; replace HB := xA (below_step (xB1 GE535.out HB.out) hb); (try clear hb); obtain ⟨hcz15_0, hcz15_1, hcz15_2, hcz15_3, hcz15_4, hcz15_5, hfz15_0, hfz15_1, hfz15_2, hfz15_3, hfz15_4, hfz15_5⟩ := xZ6 BK535.out)); try go_wp2_with (first | (refine xg 1 rfl ?_; refine xV 1 #[.int .i64 a0_0, .int .i64 a0_1, .int .i64 a0_2, .int .i64 a0_3, .int .i64 a0_4, .bool a0_5] 91 ?_; intro gb535 hg w12 hbox hb; have BK535 := xA (hbox); have GW535 := xgw hg (below_size (xB HB.out)); have GE535 := GW535; replace HB := xA (below_step (xB HB.out) hb); clear hb hbox hg; obtain ⟨hcz13_0, hcz13_1, hcz13_2, hcz13_3, hcz13_4, hcz13_5, hfz13_0, hfz13_1, hfz13_2, hfz13_3, hfz13_4, hfz13_5⟩ := xZ6 BK535.out) | (go_at_call 344; (with_reducible refine (impl_isSecond.calls a0_0 a0_1 a0_2 a0_3 a0_4 a0_5 true _ A2.out).mono ?_); rintro e w14 ⟨rfl, hb⟩; replace BK535 := xkb BK535 hb; replace HB := xA (below_step (xB1 GE535.out HB.out) hb); (try clear hb); obtain ⟨hcz15_0, hcz15_1, hcz15_2, hcz15_3, hcz15_4, hcz15_5, hfz15_0, hfz15_1, hfz15_2, hfz15_3, hfz15_4, hfz15_5⟩ := xZ6 BK535.out)))
 go_ret2
 exact ⟨by first | rfl | (simp [errW_none, errW_some] <;> rfl) | (simp only [← hji5]; first | rfl | (simp [errW_none, errW_some] <;> rfl)) | (simp [*, errW_none, errW_some] <;> rfl), xB1 GE535.out HB.out⟩
/-! ### spec_DrawIsSecond: function 348 -/
def spec_DrawIsSecond.f (k : Nat) (l0 : List Int) : Option (Int × Int × Int × Int × Int × Bool) := (spec_l1Cur_second.f k l0 0 0 6).bind fun bt539 => (some (bt539.1, bt539.2.1, bt539.2.2.1, bt539.2.2.2.1, bt539.2.2.2.2.1, bt539.2.2.2.2.2.1))
theorem spec_DrawIsSecond.mono : ∀ a0 k, LeO (spec_DrawIsSecond.f k a0) (spec_DrawIsSecond.f (k + 1) a0) := by
 intro a0 k
 have m0 := @spec_l1Cur_second.mono
 unfold spec_DrawIsSecond.f
 exact xM
set_option maxHeartbeats 200000000 in
set_option maxRecDepth 100000 in
theorem spec_DrawIsSecond.calls (k : Nat) (A0 : Option Addr) (c0 : Nat) (l0 : List Int) (r1 : Int) (r2 : Int) (r3 : Int) (r4 : Int) (r5 : Int) (r6 : Bool) (w : World) (hr0 : Kd.C (Kd.int .u8) w A0 l0.length l0) (hc0 : l0.length ≤ c0) (h : spec_DrawIsSecond.f k l0 = some (r1, r2, r3, r4, r5, r6)) :
  Calls Try.prog 348 #[.slice A0 l0.length c0] w fun e w' => e = .returned (.agg #[.int .i64 r1, .int .i64 r2, .int .i64 r3, .int .i64 r4, .int .i64 r5, .bool r6]) ∧ Below w.heap.size w w' := by
 have hu91 := Try.underlying91
 have hu129 := Try.underlying129
 have HR0 := xA hr0
 have HC0 := xA hc0
 clear hr0 hc0
 have HB := xA (Below.refl w.heap.size w)
 have H : ((spec_l1Cur_second.f k l0 0 0 6).bind fun bt539 => (some (bt539.1, bt539.2.1, bt539.2.2.1, bt539.2.2.2.1, bt539.2.2.2.2.1, bt539.2.2.2.2.2.1))) = some (r1, r2, r3, r4, r5, r6) := h
 clear h
 replace H := Option.bind_eq_some_iff.mp H
 obtain ⟨⟨t539, t540, t541, t542, t543, t544, t545, t546⟩, A20, H⟩ := H
 (try dsimp only at H)
 have A2 := xA A20
 clear A20
 simp only [Option.some.injEq, Prod.mk.injEq] at H
 obtain ⟨rfl, rfl, rfl, rfl, rfl, rfl⟩ := H
 go_enter Try.func348, Try.ntmps348
 go_wp2_with (first | (refine xg 2 rfl ?_; refine xV 2 #[.int .i64 0, .int .i64 0, .int .i64 0, .int .i64 0, .int .i64 0, .bool false] 91 ?_; intro gb537 hg w3 hbox hb; have BK537 := xA (hbox); have GW537 := xgw hg (below_size (xB HB.out)); have GE537 := GW537; replace HB := xA (below_step (xB HB.out) hb); clear hb hbox hg) | (refine xg 6 rfl ?_; refine xV 6 #[.slice A0 l0.length c0, .int .i64 0, .int .u64 0] 129 ?_; intro gb538 hg w4 hbox hb; have HI538 := xA ((show IsS129 w _ gb538 l0 0 0 from ⟨_, _, hbox, (by rw [hg]; exact (below_size (xB1 GE537.out HB.out)) : w.heap.size ≤ gb538), HR0.out⟩)); replace HB := xA (below_step (xB1 GE537.out HB.out) hb); have NB537_538 := xnl hg BK537; have NB538_537 := xng hg BK537; replace BK537 := xkb BK537 hb; clear hb hbox hg) | (refine xG (some 8) Try.func335 #[.pointer (some ⟨gb538, 0, none⟩), .int .i64 6] ?_; (with_reducible refine (spec_l1Cur_second.calls k gb538 l0 0 0 6 t539 t540 t541 t542 t543 t544 t545 t546 w _ ?side1 ?side2 A2.out).mono ?_); (case side1 => exact xJ129_12_1 NB538_537.out HI538.out); (case side2 => exact xB2 (IsS129.ge HI538.out) GE537.out HB.out); rintro e w5 ⟨rfl, hi, hb, hk⟩; refine ⟨_, rfl, ?_⟩; replace BK537 := xkk hk BK537 NB537_538; replace HB := xA (hb); replace HI538 := xA (hi); (try clear hb hk hi); have hnb6 := NB537_538.out; have hnc6 := NB538_537.out; replace hz537 := blk_cell BK537.out; replace hy537 := blk_frozen BK537.out))
 refine bodyPost_ret (results_cell_row rfl _ _ gb537 91 #[.int .i64 t539, .int .i64 t540, .int .i64 t541, .int .i64 t542, .int .i64 t543, .bool t544] (0, 0) _ rfl (xPt0 BK537.out) Try.underlying91 rfl (by kernel_rfl)) rfl ?_
 exact ⟨xr, xB2 (IsS129.ge HI538.out) GE537.out HB.out⟩

/-! ### spec_DrawIsInTriangle: function 151 -/
def spec_DrawIsInTriangle.f (k : Nat) (l0 : List Int) : Option (Int × Int × Int × Int × Int × Bool) := (spec_DrawIsSecond.f k l0).bind fun bt548 => (some (bt548.1, bt548.2.1, bt548.2.2.1, bt548.2.2.2.1, bt548.2.2.2.2.1, bt548.2.2.2.2.2))
theorem spec_DrawIsInTriangle.mono : ∀ a0 k, LeO (spec_DrawIsInTriangle.f k a0) (spec_DrawIsInTriangle.f (k + 1) a0) := by
 intro a0 k
 have m0 := @spec_DrawIsSecond.mono
 unfold spec_DrawIsInTriangle.f
 exact xM
set_option maxHeartbeats 200000000 in
set_option maxRecDepth 100000 in
theorem spec_DrawIsInTriangle.calls (k : Nat) (A0 : Option Addr) (c0 : Nat) (l0 : List Int) (r1 : Int) (r2 : Int) (r3 : Int) (r4 : Int) (r5 : Int) (r6 : Bool) (w : World) (hr0 : Kd.C (Kd.int .u8) w A0 l0.length l0) (hc0 : l0.length ≤ c0) (h : spec_DrawIsInTriangle.f k l0 = some (r1, r2, r3, r4, r5, r6)) :
  Calls Try.prog 151 #[.slice A0 l0.length c0] w fun e w' => e = .returned (.agg #[.int .i64 r1, .int .i64 r2, .int .i64 r3, .int .i64 r4, .int .i64 r5, .bool r6]) ∧ Below w.heap.size w w' := by
 have hu91 := Try.underlying91
 have HR0 := xA hr0
 have HC0 := xA hc0
 clear hr0 hc0
 have HB := xA (Below.refl w.heap.size w)
 have H : ((spec_DrawIsSecond.f k l0).bind fun bt548 => (some (bt548.1, bt548.2.1, bt548.2.2.1, bt548.2.2.2.1, bt548.2.2.2.2.1, bt548.2.2.2.2.2))) = some (r1, r2, r3, r4, r5, r6) := h
 clear h
 replace H := Option.bind_eq_some_iff.mp H
 obtain ⟨⟨t548, t549, t550, t551, t552, t553⟩, A20, H⟩ := H
 (try dsimp only at H)
 have A2 := xA A20
 clear A20
 simp only [Option.some.injEq, Prod.mk.injEq] at H
 obtain ⟨rfl, rfl, rfl, rfl, rfl, rfl⟩ := H
 go_enter Try.func151, Try.ntmps151
 go_wp2_with (first | (refine xg 2 rfl ?_; refine xV 2 #[.int .i64 0, .int .i64 0, .int .i64 0, .int .i64 0, .int .i64 0, .bool false] 91 ?_; intro gb547 hg w3 hbox hb; have BK547 := xA (hbox); have GW547 := xgw hg (below_size (xB HB.out)); have GE547 := GW547; replace HB := xA (below_step (xB HB.out) hb); clear hb hbox hg) | (refine xG (some 4) Try.func348 #[.slice A0 l0.length c0] ?_; (with_reducible refine (spec_DrawIsSecond.calls k _ _ l0 t548 t549 t550 t551 t552 t553 _ ?side1 ?side2 A2.out).mono ?_); (case side1 => exact xC (Kd.C_below HR0.out HB.out)); (case side2 => exact HC0.out); rintro e w4 ⟨rfl, hb⟩; refine ⟨_, rfl, ?_⟩; replace BK547 := xkb BK547 hb; replace HB := xA (below_step (xB1 GE547.out HB.out) hb); (try clear hb); replace hz547 := blk_cell BK547.out; replace hy547 := blk_frozen BK547.out))
 refine bodyPost_ret (results_cell_row rfl _ _ gb547 91 #[.int .i64 t548, .int .i64 t549, .int .i64 t550, .int .i64 t551, .int .i64 t552, .bool t553] (0, 0) _ rfl (xPt0 BK547.out) Try.underlying91 rfl (by kernel_rfl)) rfl ?_
 exact ⟨xr, xB1 GE547.out HB.out⟩

/-! ### spec_l1Abs: function 298 -/
def spec_l1Abs.f (a0 : Int) : Option (Int) := (spec_l1Most.f a0 (wrap64 (-a0))).bind fun t554 => (some t554)
set_option maxHeartbeats 200000000 in
set_option maxRecDepth 100000 in
theorem spec_l1Abs.calls (a0 : Int) (r : Int) (w : World) (h : spec_l1Abs.f a0 = some r) :
  Calls Try.prog 298 #[.int .i64 a0] w fun e w' => e = .returned (.int .i64 r) ∧ Drawn0 w w' := by
 have H : ((spec_l1Most.f a0 (wrap64 (-a0))).bind fun t554 => (some t554)) = some r := h
 clear h
 obtain ⟨t554, A2, H⟩ := xO H
 (try dsimp only at H)
 obtain rfl := Option.some.inj H
 go_enter Try.func298, Try.ntmps298
 go_wp2_with (first | (refine xG (some 6) Try.func271 #[.int .i64 a0, .int .i64 (wrap64 (-a0))] ?_; (with_reducible refine (spec_l1Most.calls a0 (wrap64 (-a0)) t554 _ A2.out).mono ?_); rintro e w' ⟨rfl, ⟨nd, rfl⟩⟩; refine ⟨_, rfl, ?_⟩))
 go_ret
 exact ⟨by first | rfl | (simp; done) | (simp [*]; done), by repeat (first | exact Drawn0.refl _ | apply Drawn0.step)⟩

/-! ### spec_IsInTriangle: function 152 -/
def spec_IsInTriangle.f (a0_0 : Int) (a0_1 : Int) (a0_2 : Int) (a0_3 : Int) (a0_4 : Int) (a0_5 : Bool) : Option (Bool × Bool) := (spec_sdGood.f a0_0 a0_1 a0_2 a0_3 a0_4 a0_5).bind fun t556 => (if t556 = true then (if 0 ≤ a0_2 then ((spec_l1Abs.f a0_1).bind fun t557 => (if t557 < (shl .i64 1 a0_2) then ((spec_l1Abs.f a0_0).bind fun t558 => (some (decide (t558 < (wrap64 ((shl .i64 1 a0_2) - a0_1))), true))) else (some (false, true)))) else (none)) else (some (false, false)))
set_option maxHeartbeats 200000000 in
set_option maxRecDepth 100000 in
theorem spec_IsInTriangle.calls (a0_0 : Int) (a0_1 : Int) (a0_2 : Int) (a0_3 : Int) (a0_4 : Int) (a0_5 : Bool) (r1 : Bool) (r2 : Bool) (w : World) (h : spec_IsInTriangle.f a0_0 a0_1 a0_2 a0_3 a0_4 a0_5 = some (r1, r2)) :
  Calls Try.prog 152 #[.agg #[.int .i64 a0_0, .int .i64 a0_1, .int .i64 a0_2, .int .i64 a0_3, .int .i64 a0_4, .bool a0_5]] w fun e w' => e = .returned (.tuple #[.bool r1, .bool r2]) ∧ Below w.heap.size w w' := by
 have hu91 := Try.underlying91
 have HB := xA (Below.refl w.heap.size w)
 have H : ((spec_sdGood.f a0_0 a0_1 a0_2 a0_3 a0_4 a0_5).bind fun t556 => (if t556 = true then (if 0 ≤ a0_2 then ((spec_l1Abs.f a0_1).bind fun t557 => (if t557 < (shl .i64 1 a0_2) then ((spec_l1Abs.f a0_0).bind fun t558 => (some (decide (t558 < (wrap64 ((shl .i64 1 a0_2) - a0_1))), true))) else (some (false, true)))) else (none)) else (some (false, false)))) = some (r1, r2) := h
 clear h
 obtain ⟨t556, A2, H⟩ := xO H
 (try dsimp only at H)
 by_cases c3 : t556 = true
 rotate_left
 ·replace c3 := Bool.eq_false_iff.mpr c3
  subst c3
  rw [if_neg (show ¬ (false = true) by decide)] at H
  simp only [Option.some.injEq, Prod.mk.injEq] at H
  obtain ⟨rfl, rfl⟩ := H
  go_enter Try.func152, Try.ntmps152
  go_wp2_with (first | (refine xg 1 rfl ?_; refine xV 1 #[.int .i64 a0_0, .int .i64 a0_1, .int .i64 a0_2, .int .i64 a0_3, .int .i64 a0_4, .bool a0_5] 91 ?_; intro gb555 hg w17 hbox hb; have BK555 := xA (hbox); have GW555 := xgw hg (below_size (xB HB.out)); have GE555 := GW555; replace HB := xA (below_step (xB HB.out) hb); clear hb hbox hg; obtain ⟨hcz18_0, hcz18_1, hcz18_2, hcz18_3, hcz18_4, hcz18_5, hfz18_0, hfz18_1, hfz18_2, hfz18_3, hfz18_4, hfz18_5⟩ := xZ6 BK555.out) | (go_at_call 345; (with_reducible refine (spec_sdGood.calls a0_0 a0_1 a0_2 a0_3 a0_4 a0_5 false _ A2.out).mono ?_); rintro e w19 ⟨rfl, hb⟩; replace BK555 := xkb BK555 hb; replace HB := xA (below_step (xB1 GE555.out HB.out) hb); (try clear hb)))
  repeat (go_quiet (first | (refine xg 1 rfl ?_; refine xV 1 #[.int .i64 a0_0, .int .i64 a0_1, .int .i64 a0_2, .int .i64 a0_3, .int .i64 a0_4, .bool a0_5] 91 ?_; intro gb555 hg w17 hbox hb; have BK555 := xA (hbox); have GW555 := xgw hg (below_size (xB HB.out)); have GE555 := GW555; replace HB := xA (below_step (xB HB.out) hb); clear hb hbox hg; obtain ⟨hcz18_0, hcz18_1, hcz18_2, hcz18_3, hcz18_4, hcz18_5, hfz18_0, hfz18_1, hfz18_2, hfz18_3, hfz18_4, hfz18_5⟩ := xZ6 BK555.out) | (go_at_call 345; (with_reducible refine (spec_sdGood.calls a0_0 a0_1 a0_2 a0_3 a0_4 a0_5 false _ A2.out).mono ?_); rintro e w19 ⟨rfl, hb⟩; replace BK555 := xkb BK555 hb; replace HB := xA (below_step (xB1 GE555.out HB.out) hb); (try clear hb))); try go_wp2_with (first | (refine xg 1 rfl ?_; refine xV 1 #[.int .i64 a0_0, .int .i64 a0_1, .int .i64 a0_2, .int .i64 a0_3, .int .i64 a0_4, .bool a0_5] 91 ?_; intro gb555 hg w17 hbox hb; have BK555 := xA (hbox); have GW555 := xgw hg (below_size (xB HB.out)); have GE555 := GW555; replace HB := xA (below_step (xB HB.out) hb); clear hb hbox hg; obtain ⟨hcz18_0, hcz18_1, hcz18_2, hcz18_3, hcz18_4, hcz18_5, hfz18_0, hfz18_1, hfz18_2, hfz18_3, hfz18_4, hfz18_5⟩ := xZ6 BK555.out) | (go_at_call 345; (with_reducible refine (spec_sdGood.calls a0_0 a0_1 a0_2 a0_3 a0_4 a0_5 false _ A2.out).mono ?_); rintro e w19 ⟨rfl, hb⟩; replace BK555 := xkb BK555 hb; replace HB := xA (below_step (xB1 GE555.out HB.out) hb); (try clear hb))))
  go_ret2
  exact ⟨xr, xB1 GE555.out HB.out⟩

 subst c3
 rw [if_pos rfl] at H
 by_cases c4 : 0 ≤ a0_2
 rotate_left
 ·rw [if_neg c4] at H
  exact absurd H (by simp)
 rw [if_pos c4] at H
 have c4b0 := eq_true c4
 have c4b1 : decide (0 ≤ a0_2) = true := decide_eq_true c4
 clear c4
 obtain ⟨ji5, hji5⟩ : ∃ j_ : Int, (shl .i64 1 a0_2) = j_ := ⟨_, rfl⟩
 (first | rw [hji5] at H | simp only [hji5] at H)
 (try rw [hji5] at A2)
 have hji5_ : (IntKind.i64.wrap (1 * 2 ^ min a0_2.toNat 64)) = ji5 := hji5
 have hji5z : a0_2 ≤ 64 → (IntKind.i64.wrap (1 * 2 ^ a0_2.toNat)) = ji5 := shl_small hji5
 have hji5u : (IntKind.i64.wrap (2 ^ min a0_2.toNat 64)) = ji5 := by have h_ := hji5_; rw [Int.one_mul] at h_; exact h_
 have hji5v : a0_2 ≤ 64 → (IntKind.i64.wrap (2 ^ a0_2.toNat)) = ji5 := fun hle_ => by have h_ := hji5z hle_; rw [Int.one_mul] at h_; exact h_
 have hji5y : (wrap64 (1 * 2 ^ min a0_2.toNat 64)) = ji5 := (i64_w _).symm.trans hji5_
 have hji5x : a0_2 ≤ 64 → (wrap64 (1 * 2 ^ a0_2.toNat)) = ji5 := fun h_ => (i64_w _).symm.trans (hji5z h_)
 obtain ⟨t557, A6, H⟩ := xO H
 (try dsimp only at H)
 by_cases c7 : t557 < (ji5)
 rotate_left
 ·rw [if_neg c7] at H
  have c7b0 : decide (t557 < (ji5)) = false := decide_eq_false c7
  clear c7
  simp only [Option.some.injEq, Prod.mk.injEq] at H
  obtain ⟨rfl, rfl⟩ := H
  go_enter Try.func152, Try.ntmps152
  go_wp2_with (first | (refine xg 1 rfl ?_; refine xV 1 #[.int .i64 a0_0, .int .i64 a0_1, .int .i64 a0_2, .int .i64 a0_3, .int .i64 a0_4, .bool a0_5] 91 ?_; intro gb555 hg w13 hbox hb; have BK555 := xA (hbox); have GW555 := xgw hg (below_size (xB HB.out)); have GE555 := GW555; replace HB := xA (below_step (xB HB.out) hb); clear hb hbox hg; obtain ⟨hcz14_0, hcz14_1, hcz14_2, hcz14_3, hcz14_4, hcz14_5, hfz14_0, hfz14_1, hfz14_2, hfz14_3, hfz14_4, hfz14_5⟩ := xZ6 BK555.out) | (go_at_call 345; (with_reducible refine (spec_sdGood.calls a0_0 a0_1 a0_2 a0_3 a0_4 a0_5 true _ A2.out).mono ?_); rintro e w15 ⟨rfl, hb⟩; replace BK555 := xkb BK555 hb; replace HB := xA (below_step (xB1 GE555.out HB.out) hb); (try clear hb); obtain ⟨hcz16_0, hcz16_1, hcz16_2, hcz16_3, hcz16_4, hcz16_5, hfz16_0, hfz16_1, hfz16_2, hfz16_3, hfz16_4, hfz16_5⟩ := xZ6 BK555.out) | (go_at_call 298; (with_reducible refine (spec_l1Abs.calls a0_1 t557 _ A6.out).mono ?_); rintro e w' ⟨rfl, ⟨nd, rfl⟩⟩; (try exact xD)))
  repeat (go_quiet (first | (refine xg 1 rfl ?_; refine xV 1 #[.int .i64 a0_0, .int .i64 a0_1, .int .i64 a0_2, .int .i64 a0_3, .int .i64 a0_4, .bool a0_5] 91 ?_; intro gb555 hg w13 hbox hb; have BK555 := xA (hbox); have GW555 := xgw hg (below_size (xB HB.out)); have GE555 := GW555; replace HB := xA (below_step (xB HB.out) hb); clear hb hbox hg; obtain ⟨hcz14_0, hcz14_1, hcz14_2, hcz14_3, hcz14_4, hcz14_5, hfz14_0, hfz14_1, hfz14_2, hfz14_3, hfz14_4, hfz14_5⟩ := xZ6 BK555.out) | (go_at_call 345; (with_reducible refine (spec_sdGood.calls a0_0 a0_1 a0_2 a0_3 a0_4 a0_5 true _ A2.out).mono ?_); rintro e w15 ⟨rfl, hb⟩; replace BK555 := xkb BK555 hb; replace HB := xA (below_step (xB1 GE555.out HB.out) hb); (try clear hb); obtain ⟨hcz16_0, hcz16_1, hcz16_2, hcz16_3, hcz16_4, hcz16_5, hfz16_0, hfz16_1, hfz16_2, hfz16_3, hfz16_4, hfz16_5⟩ := xZ6 BK555.out) | (go_at_call 298; (with_reducible refine (spec_l1Abs.calls a0_1 t557 _ A6.out).mono ?_); rintro e w' ⟨rfl, ⟨nd, rfl⟩⟩; (try exact xD))); try go_wp2_with (first | (refine xg 1 rfl ?_; refine xV 1 #[.int .i64 a0_0, .int .i64 a0_1, .int .i64 a0_2, .int .i64 a0_3, .int .i64 a0_4, .bool a0_5] 91 ?_; intro gb555 hg w13 hbox hb; have BK555 := xA (hbox); have GW555 := xgw hg (below_size (xB HB.out)); have GE555 := GW555; replace HB := xA (below_step (xB HB.out) hb); clear hb hbox hg; obtain ⟨hcz14_0, hcz14_1, hcz14_2, hcz14_3, hcz14_4, hcz14_5, hfz14_0, hfz14_1, hfz14_2, hfz14_3, hfz14_4, hfz14_5⟩ := xZ6 BK555.out) | (go_at_call 345; (with_reducible refine (spec_sdGood.calls a0_0 a0_1 a0_2 a0_3 a0_4 a0_5 true _ A2.out).mono ?_); rintro e w15 ⟨rfl, hb⟩; replace BK555 := xkb BK555 hb; replace HB := xA (below_step (xB1 GE555.out HB.out) hb); (try clear hb); obtain ⟨hcz16_0, hcz16_1, hcz16_2, hcz16_3, hcz16_4, hcz16_5, hfz16_0, hfz16_1, hfz16_2, hfz16_3, hfz16_4, hfz16_5⟩ := xZ6 BK555.out) | (go_at_call 298; (with_reducible refine (spec_l1Abs.calls a0_1 t557 _ A6.out).mono ?_); rintro e w' ⟨rfl, ⟨nd, rfl⟩⟩; (try exact xD))))
  go_ret2
  exact ⟨by first | rfl | (simp [errW_none, errW_some] <;> rfl) | (simp only [← hji5]; first | rfl | (simp [errW_none, errW_some] <;> rfl)) | (simp [*, errW_none, errW_some] <;> rfl), xB1 GE555.out HB.out⟩
 rw [if_pos c7] at H
 have c7b0 : decide (t557 < (ji5)) = true := decide_eq_true c7
 clear c7
 obtain ⟨t558, A8, H⟩ := xO H
 (try dsimp only at H)
 simp only [Option.some.injEq, Prod.mk.injEq] at H
 obtain ⟨rfl, rfl⟩ := H
 go_enter Try.func152, Try.ntmps152
 go_wp2_with (first | (refine xg 1 rfl ?_; refine xV 1 #[.int .i64 a0_0, .int .i64 a0_1, .int .i64 a0_2, .int .i64 a0_3, .int .i64 a0_4, .bool a0_5] 91 ?_; intro gb555 hg w9 hbox hb; have BK555 := xA (hbox); have GW555 := xgw hg (below_size (xB HB.out)); have GE555 := GW555; replace HB := xA (below_step (xB HB.out) hb); clear hb hbox hg; obtain ⟨hcz10_0, hcz10_1, hcz10_2, hcz10_3, hcz10_4, hcz10_5, hfz10_0, hfz10_1, hfz10_2, hfz10_3, hfz10_4, hfz10_5⟩ := xZ6 BK555.out) | (go_at_call 345; (with_reducible refine (spec_sdGood.calls a0_0 a0_1 a0_2 a0_3 a0_4 a0_5 true _ A2.out).mono ?_); rintro e w11 ⟨rfl, hb⟩; replace BK555 := xkb BK555 hb; replace HB := xA (below_step (xB1 GE555.out HB.out) hb); (try clear hb); obtain ⟨hcz12_0, hcz12_1, hcz12_2, hcz12_3, hcz12_4, hcz12_5, hfz12_0, hfz12_1, hfz12_2, hfz12_3, hfz12_4, hfz12_5⟩ := xZ6 BK555.out) | (go_at_call 298; (with_reducible refine (spec_l1Abs.calls a0_1 t557 _ A6.out).mono ?_); rintro e w' ⟨rfl, ⟨nd, rfl⟩⟩; (try exact xD)) | (go_at_call 298; (with_reducible refine (spec_l1Abs.calls a0_0 t558 _ A8.out).mono ?_); rintro e w' ⟨rfl, ⟨nd, rfl⟩⟩; (try exact xD)))
 repeat (go_quiet (first | (refine xg 1 rfl ?_; refine xV 1 #[.int .i64 a0_0, .int .i64 a0_1, .int .i64 a0_2, .int .i64 a0_3, .int .i64 a0_4, .bool a0_5] 91 ?_; intro gb555 hg w9 hbox hb; have BK555 := xA (hbox); have GW555 := xgw hg (below_size (xB HB.out)); have GE555 := GW555; replace HB := xA (below_step (xB HB.out) hb); clear hb hbox hg; obtain ⟨hcz10_0, hcz10_1, hcz10_2, hcz10_3, hcz10_4, hcz10_5, hfz10_0, hfz10_1, hfz10_2, hfz10_3, hfz10_4, hfz10_5⟩ := xZ6 BK555.out) | (go_at_call 345; (with_reducible refine (spec_sdGood.calls a0_0 a0_1 a0_2 a0_3 a0_4 a0_5 true _ A2.out).mono ?_); rintro e w11 ⟨rfl, hb⟩; replace BK555 := xkb BK555 hb; replace HB := xA (below_step (xB1 GE555.out HB.out) hb); (try clear hb); obtain ⟨hcz12_0, hcz12_1, hcz12_2, hcz12_3, hcz12_4, hcz12_5, hfz12_0, hfz12_1, hfz12_2, hfz12_3, hfz12_4, hfz12_5⟩ := xZ6 BK555.out) | (go_at_call 298; (with_reducible refine (spec_l1Abs.calls a0_1 t557 _ A6.out).mono ?_); rintro e w' ⟨rfl, ⟨nd, rfl⟩⟩; (try exact xD)) | (go_at_call 298; (with_reducible refine (spec_l1Abs.calls a0_0 t558 _ A8.out).mono ?_); rintro e w' ⟨rfl, ⟨nd, rfl⟩⟩; (try exact xD))); try go_wp2_with (first | (refine xg 1 rfl ?_; refine xV 1 #[.int .i64 a0_0, .int .i64 a0_1, .int .i64 a0_2, .int .i64 a0_3, .int .i64 a0_4, .bool a0_5] 91 ?_; intro gb555 hg w9 hbox hb; have BK555 := xA (hbox); have GW555 := xgw hg (below_size (xB HB.out)); have GE555 := GW555; replace HB := xA (below_step (xB HB.out) hb); clear hb hbox hg; obtain ⟨hcz10_0, hcz10_1, hcz10_2, hcz10_3, hcz10_4, hcz10_5, hfz10_0, hfz10_1, hfz10_2, hfz10_3, hfz10_4, hfz10_5⟩ := xZ6 BK555.out) | (go_at_call 345; (with_reducible refine (spec_sdGood.calls a0_0 a0_1 a0_2 a0_3 a0_4 a0_5 true _ A2.out).mono ?_); rintro e w11 ⟨rfl, hb⟩; replace BK555 := xkb BK555 hb; replace HB := xA (below_step (xB1 GE555.out HB.out) hb); (try clear hb); obtain ⟨hcz12_0, hcz12_1, hcz12_2, hcz12_3, hcz12_4, hcz12_5, hfz12_0, hfz12_1, hfz12_2, hfz12_3, hfz12_4, hfz12_5⟩ := xZ6 BK555.out) | (go_at_call 298; (with_reducible refine (spec_l1Abs.calls a0_1 t557 _ A6.out).mono ?_); rintro e w' ⟨rfl, ⟨nd, rfl⟩⟩; (try exact xD)) | (go_at_call 298; (with_reducible refine (spec_l1Abs.calls a0_0 t558 _ A8.out).mono ?_); rintro e w' ⟨rfl, ⟨nd, rfl⟩⟩; (try exact xD))))
 go_ret2
 exact ⟨by first | rfl | (simp [errW_none, errW_some] <;> rfl) | (simp only [← hji5]; first | rfl | (simp [errW_none, errW_some] <;> rfl)) | (simp [*, errW_none, errW_some] <;> rfl), xB1 GE555.out HB.out⟩
/-! ### spec_l1Sign: function 349 -/
def spec_l1Sign.f (a0 : Int) : Option (Int) := if a0 > 0 then (some 1) else (if a0 < 0 then (some (-1)) else (some 0))
set_option maxHeartbeats 200000000 in
set_option maxRecDepth 100000 in
theorem spec_l1Sign.calls (a0 : Int) (r : Int) (w : World) (h : spec_l1Sign.f a0 = some r) :
  Calls Try.prog 349 #[.int .i64 a0] w fun e w' => e = .returned (.int .i64 r) ∧ Drawn0 w w' := by
 have H : (if a0 > 0 then (some 1) else (if a0 < 0 then (some (-1)) else (some 0))) = some r := h
 clear h
 by_cases c2 : a0 > 0
 ·rw [if_pos c2] at H
  have c2b0 : decide (0 < a0) = true := decide_eq_true c2
  clear c2
  obtain rfl := Option.some.inj H
  go_enter Try.func349, Try.ntmps349
  go_wp2
  go_ret
  exact ⟨by first | rfl | (simp; done) | (simp [*]; done), by repeat (first | exact Drawn0.refl _ | apply Drawn0.step)⟩
 rw [if_neg c2] at H
 have c2b0 : decide (0 < a0) = false := decide_eq_false c2
 clear c2
 by_cases c3 : a0 < 0
 ·rw [if_pos c3] at H
  have c3b0 : decide (a0 < 0) = true := decide_eq_true c3
  clear c3
  obtain rfl := Option.some.inj H
  go_enter Try.func349, Try.ntmps349
  go_wp2
  go_ret
  exact ⟨by first | rfl | (simp; done) | (simp [*]; done), by repeat (first | exact Drawn0.refl _ | apply Drawn0.step)⟩
 rw [if_neg c3] at H
 have c3b0 : decide (a0 < 0) = false := decide_eq_false c3
 clear c3
 obtain rfl := Option.some.inj H
 go_enter Try.func349, Try.ntmps349
 go_wp2
 go_ret
 exact ⟨by first | rfl | (simp; done) | (simp [*]; done), by repeat (first | exact Drawn0.refl _ | apply Drawn0.step)⟩

/-! ### spec_RootsOf: function 153 -/
def spec_RootsOf.f (a0_0 : Int) (a0_1 : Int) (a0_2 : Int) (a0_3 : Int) (a0_4 : Int) (a0_5 : Bool) : Option (ByteArray × Bool) := (spec_sdGood.f a0_0 a0_1 a0_2 a0_3 a0_4 a0_5).bind fun t560 => (if t560 = true then (if 0 ≤ a0_2 then ((spec_l1Sign.f (wrap64 ((wrap64 (a0_0 * a0_0)) + (shl .i64 (wrap64 (4 * a0_1)) a0_2)))).bind fun t561 => (if t561 = 1 then (some ((⟨#[116, 119, 111]⟩ : ByteArray), true)) else (if t561 = 0 then (some ((⟨#[111, 110, 101]⟩ : ByteArray), true)) else (some ((⟨#[116, 117, 114, 110]⟩ : ByteArray), true))))) else (none)) else (some ((⟨#[]⟩ : ByteArray), false)))
set_option maxHeartbeats 200000000 in
set_option maxRecDepth 100000 in
theorem spec_RootsOf.calls (a0_0 : Int) (a0_1 : Int) (a0_2 : Int) (a0_3 : Int) (a0_4 : Int) (a0_5 : Bool) (r1 : ByteArray) (r2 : Bool) (w : World) (h : spec_RootsOf.f a0_0 a0_1 a0_2 a0_3 a0_4 a0_5 = some (r1, r2)) :
  Calls Try.prog 153 #[.agg #[.int .i64 a0_0, .int .i64 a0_1, .int .i64 a0_2, .int .i64 a0_3, .int .i64 a0_4, .bool a0_5]] w fun e w' => e = .returned (.tuple #[.string r1, .bool r2]) ∧ Below w.heap.size w w' := by
 have hu91 := Try.underlying91
 have HB := xA (Below.refl w.heap.size w)
 have H : ((spec_sdGood.f a0_0 a0_1 a0_2 a0_3 a0_4 a0_5).bind fun t560 => (if t560 = true then (if 0 ≤ a0_2 then ((spec_l1Sign.f (wrap64 ((wrap64 (a0_0 * a0_0)) + (shl .i64 (wrap64 (4 * a0_1)) a0_2)))).bind fun t561 => (if t561 = 1 then (some ((⟨#[116, 119, 111]⟩ : ByteArray), true)) else (if t561 = 0 then (some ((⟨#[111, 110, 101]⟩ : ByteArray), true)) else (some ((⟨#[116, 117, 114, 110]⟩ : ByteArray), true))))) else (none)) else (some ((⟨#[]⟩ : ByteArray), false)))) = some (r1, r2) := h
 clear h
 obtain ⟨t560, A2, H⟩ := xO H
 (try dsimp only at H)
 by_cases c3 : t560 = true
 rotate_left
 ·replace c3 := Bool.eq_false_iff.mpr c3
  subst c3
  rw [if_neg (show ¬ (false = true) by decide)] at H
  simp only [Option.some.injEq, Prod.mk.injEq] at H
  obtain ⟨rfl, rfl⟩ := H
  go_enter Try.func153, Try.ntmps153
  go_wp2_with (first | (refine xg 1 rfl ?_; refine xV 1 #[.int .i64 a0_0, .int .i64 a0_1, .int .i64 a0_2, .int .i64 a0_3, .int .i64 a0_4, .bool a0_5] 91 ?_; intro gb559 hg w21 hbox hb; have BK559 := xA (hbox); have GW559 := xgw hg (below_size (xB HB.out)); have GE559 := GW559; replace HB := xA (below_step (xB HB.out) hb); clear hb hbox hg; obtain ⟨hcz22_0, hcz22_1, hcz22_2, hcz22_3, hcz22_4, hcz22_5, hfz22_0, hfz22_1, hfz22_2, hfz22_3, hfz22_4, hfz22_5⟩ := xZ6 BK559.out) | (go_at_call 345; (with_reducible refine (spec_sdGood.calls a0_0 a0_1 a0_2 a0_3 a0_4 a0_5 false _ A2.out).mono ?_); rintro e w23 ⟨rfl, hb⟩; replace BK559 := xkb BK559 hb; replace HB := xA (below_step (xB1 GE559.out HB.out) hb); (try clear hb)))
  repeat (go_quiet (first | (refine xg 1 rfl ?_; refine xV 1 #[.int .i64 a0_0, .int .i64 a0_1, .int .i64 a0_2, .int .i64 a0_3, .int .i64 a0_4, .bool a0_5] 91 ?_; intro gb559 hg w21 hbox hb; have BK559 := xA (hbox); have GW559 := xgw hg (below_size (xB HB.out)); have GE559 := GW559; replace HB := xA (below_step (xB HB.out) hb); clear hb hbox hg; obtain ⟨hcz22_0, hcz22_1, hcz22_2, hcz22_3, hcz22_4, hcz22_5, hfz22_0, hfz22_1, hfz22_2, hfz22_3, hfz22_4, hfz22_5⟩ := xZ6 BK559.out) | (go_at_call 345; (with_reducible refine (spec_sdGood.calls a0_0 a0_1 a0_2 a0_3 a0_4 a0_5 false _ A2.out).mono ?_); rintro e w23 ⟨rfl, hb⟩; replace BK559 := xkb BK559 hb; replace HB := xA (below_step (xB1 GE559.out HB.out) hb); (try clear hb))); try go_wp2_with (first | (refine xg 1 rfl ?_; refine xV 1 #[.int .i64 a0_0, .int .i64 a0_1, .int .i64 a0_2, .int .i64 a0_3, .int .i64 a0_4, .bool a0_5] 91 ?_; intro gb559 hg w21 hbox hb; have BK559 := xA (hbox); have GW559 := xgw hg (below_size (xB HB.out)); have GE559 := GW559; replace HB := xA (below_step (xB HB.out) hb); clear hb hbox hg; obtain ⟨hcz22_0, hcz22_1, hcz22_2, hcz22_3, hcz22_4, hcz22_5, hfz22_0, hfz22_1, hfz22_2, hfz22_3, hfz22_4, hfz22_5⟩ := xZ6 BK559.out) | (go_at_call 345; (with_reducible refine (spec_sdGood.calls a0_0 a0_1 a0_2 a0_3 a0_4 a0_5 false _ A2.out).mono ?_); rintro e w23 ⟨rfl, hb⟩; replace BK559 := xkb BK559 hb; replace HB := xA (below_step (xB1 GE559.out HB.out) hb); (try clear hb))))
  go_ret2
  exact ⟨xr, xB1 GE559.out HB.out⟩

 subst c3
 rw [if_pos rfl] at H
 by_cases c4 : 0 ≤ a0_2
 rotate_left
 ·rw [if_neg c4] at H
  exact absurd H (by simp)
 rw [if_pos c4] at H
 have c4b0 := eq_true c4
 have c4b1 : decide (0 ≤ a0_2) = true := decide_eq_true c4
 clear c4
 obtain ⟨ji5, hji5⟩ : ∃ j_ : Int, (shl .i64 (wrap64 (4 * a0_1)) a0_2) = j_ := ⟨_, rfl⟩
 (first | rw [hji5] at H | simp only [hji5] at H)
 (try rw [hji5] at A2)
 obtain ⟨hji5_, hji5z, hji5y, hji5x⟩ := xSh hji5
 obtain ⟨t561, A6, H⟩ := xO H
 (try dsimp only at H)
 by_cases c7 : t561 = 1
 ·rw [if_pos c7] at H
  have c7b0 : (t561 == 1) = true := beq_iff_eq.mpr c7
  have c7b1 : (t561 != 1) = false := bne_eq_false_iff_eq.mpr c7
  clear c7
  simp only [Option.some.injEq, Prod.mk.injEq] at H
  obtain ⟨rfl, rfl⟩ := H
  go_enter Try.func153, Try.ntmps153
  go_wp2_with (first | (refine xg 1 rfl ?_; refine xV 1 #[.int .i64 a0_0, .int .i64 a0_1, .int .i64 a0_2, .int .i64 a0_3, .int .i64 a0_4, .bool a0_5] 91 ?_; intro gb559 hg w8 hbox hb; have BK559 := xA (hbox); have GW559 := xgw hg (below_size (xB HB.out)); have GE559 := GW559; replace HB := xA (below_step (xB HB.out) hb); clear hb hbox hg; obtain ⟨hcz9_0, hcz9_1, hcz9_2, hcz9_3, hcz9_4, hcz9_5, hfz9_0, hfz9_1, hfz9_2, hfz9_3, hfz9_4, hfz9_5⟩ := xZ6 BK559.out) | (go_at_call 345; (with_reducible refine (spec_sdGood.calls a0_0 a0_1 a0_2 a0_3 a0_4 a0_5 true _ A2.out).mono ?_); rintro e w10 ⟨rfl, hb⟩; replace BK559 := xkb BK559 hb; replace HB := xA (below_step (xB1 GE559.out HB.out) hb); (try clear hb); obtain ⟨hcz11_0, hcz11_1, hcz11_2, hcz11_3, hcz11_4, hcz11_5, hfz11_0, hfz11_1, hfz11_2, hfz11_3, hfz11_4, hfz11_5⟩ := xZ6 BK559.out) | (go_at_call 349; (with_reducible refine (spec_l1Sign.calls (wrap64 ((wrap64 (a0_0 * a0_0)) + (ji5))) t561 _ A6.out).mono ?_); rintro e w' ⟨rfl, ⟨nd, rfl⟩⟩; (try exact xD)))
  repeat (go_quiet (first | (refine xg 1 rfl ?_; refine xV 1 #[.int .i64 a0_0, .int .i64 a0_1, .int .i64 a0_2, .int .i64 a0_3, .int .i64 a0_4, .bool a0_5] 91 ?_; intro gb559 hg w8 hbox hb; have BK559 := xA (hbox); have GW559 := xgw hg (below_size (xB HB.out)); have GE559 := GW559; replace HB := xA (below_step (xB HB.out) hb); clear hb hbox hg; obtain ⟨hcz9_0, hcz9_1, hcz9_2, hcz9_3, hcz9_4, hcz9_5, hfz9_0, hfz9_1, hfz9_2, hfz9_3, hfz9_4, hfz9_5⟩ := xZ6 BK559.out) | (go_at_call 345; (with_reducible refine (spec_sdGood.calls a0_0 a0_1 a0_2 a0_3 a0_4 a0_5 true _ A2.out).mono ?_); rintro e w10 ⟨rfl, hb⟩; replace BK559 := xkb BK559 hb; replace HB := xA (below_step (xB1 GE559.out HB.out) hb); (try clear hb); obtain ⟨hcz11_0, hcz11_1, hcz11_2, hcz11_3, hcz11_4, hcz11_5, hfz11_0, hfz11_1, hfz11_2, hfz11_3, hfz11_4, hfz11_5⟩ := xZ6 BK559.out) | (go_at_call 349; (with_reducible refine (spec_l1Sign.calls (wrap64 ((wrap64 (a0_0 * a0_0)) + (ji5))) t561 _ A6.out).mono ?_); rintro e w' ⟨rfl, ⟨nd, rfl⟩⟩; (try exact xD))); try go_wp2_with (first | (refine xg 1 rfl ?_; refine xV 1 #[.int .i64 a0_0, .int .i64 a0_1, .int .i64 a0_2, .int .i64 a0_3, .int .i64 a0_4, .bool a0_5] 91 ?_; intro gb559 hg w8 hbox hb; have BK559 := xA (hbox); have GW559 := xgw hg (below_size (xB HB.out)); have GE559 := GW559; replace HB := xA (below_step (xB HB.out) hb); clear hb hbox hg; obtain ⟨hcz9_0, hcz9_1, hcz9_2, hcz9_3, hcz9_4, hcz9_5, hfz9_0, hfz9_1, hfz9_2, hfz9_3, hfz9_4, hfz9_5⟩ := xZ6 BK559.out) | (go_at_call 345; (with_reducible refine (spec_sdGood.calls a0_0 a0_1 a0_2 a0_3 a0_4 a0_5 true _ A2.out).mono ?_); rintro e w10 ⟨rfl, hb⟩; replace BK559 := xkb BK559 hb; replace HB := xA (below_step (xB1 GE559.out HB.out) hb); (try clear hb); obtain ⟨hcz11_0, hcz11_1, hcz11_2, hcz11_3, hcz11_4, hcz11_5, hfz11_0, hfz11_1, hfz11_2, hfz11_3, hfz11_4, hfz11_5⟩ := xZ6 BK559.out) | (go_at_call 349; (with_reducible refine (spec_l1Sign.calls (wrap64 ((wrap64 (a0_0 * a0_0)) + (ji5))) t561 _ A6.out).mono ?_); rintro e w' ⟨rfl, ⟨nd, rfl⟩⟩; (try exact xD))))
  go_ret2
  exact ⟨by first | rfl | (simp [errW_none, errW_some] <;> rfl) | (simp only [← hji5]; first | rfl | (simp [errW_none, errW_some] <;> rfl)) | (simp [*, errW_none, errW_some] <;> rfl), xB1 GE559.out HB.out⟩
 rw [if_neg c7] at H
 have c7b0 : (t561 == 1) = false := beq_eq_false_iff_ne.mpr c7
 have c7b1 : (t561 != 1) = true := bne_iff_ne.mpr c7
 by_cases c12 : t561 = 0
 rotate_left
 ·rw [if_neg c12] at H
  have c12b0 : (t561 == 0) = false := beq_eq_false_iff_ne.mpr c12
  have c12b1 : (t561 != 0) = true := bne_iff_ne.mpr c12
  simp only [Option.some.injEq, Prod.mk.injEq] at H
  obtain ⟨rfl, rfl⟩ := H
  go_enter Try.func153, Try.ntmps153
  go_wp2_with (first | (refine xg 1 rfl ?_; refine xV 1 #[.int .i64 a0_0, .int .i64 a0_1, .int .i64 a0_2, .int .i64 a0_3, .int .i64 a0_4, .bool a0_5] 91 ?_; intro gb559 hg w17 hbox hb; have BK559 := xA (hbox); have GW559 := xgw hg (below_size (xB HB.out)); have GE559 := GW559; replace HB := xA (below_step (xB HB.out) hb); clear hb hbox hg; obtain ⟨hcz18_0, hcz18_1, hcz18_2, hcz18_3, hcz18_4, hcz18_5, hfz18_0, hfz18_1, hfz18_2, hfz18_3, hfz18_4, hfz18_5⟩ := xZ6 BK559.out) | (go_at_call 345; (with_reducible refine (spec_sdGood.calls a0_0 a0_1 a0_2 a0_3 a0_4 a0_5 true _ A2.out).mono ?_); rintro e w19 ⟨rfl, hb⟩; replace BK559 := xkb BK559 hb; replace HB := xA (below_step (xB1 GE559.out HB.out) hb); (try clear hb); obtain ⟨hcz20_0, hcz20_1, hcz20_2, hcz20_3, hcz20_4, hcz20_5, hfz20_0, hfz20_1, hfz20_2, hfz20_3, hfz20_4, hfz20_5⟩ := xZ6 BK559.out) | (go_at_call 349; (with_reducible refine (spec_l1Sign.calls (wrap64 ((wrap64 (a0_0 * a0_0)) + (ji5))) t561 _ A6.out).mono ?_); rintro e w' ⟨rfl, ⟨nd, rfl⟩⟩; (try exact xD)))
  repeat (go_quiet (first | (refine xg 1 rfl ?_; refine xV 1 #[.int .i64 a0_0, .int .i64 a0_1, .int .i64 a0_2, .int .i64 a0_3, .int .i64 a0_4, .bool a0_5] 91 ?_; intro gb559 hg w17 hbox hb; have BK559 := xA (hbox); have GW559 := xgw hg (below_size (xB HB.out)); have GE559 := GW559; replace HB := xA (below_step (xB HB.out) hb); clear hb hbox hg; obtain ⟨hcz18_0, hcz18_1, hcz18_2, hcz18_3, hcz18_4, hcz18_5, hfz18_0, hfz18_1, hfz18_2, hfz18_3, hfz18_4, hfz18_5⟩ := xZ6 BK559.out) | (go_at_call 345; (with_reducible refine (spec_sdGood.calls a0_0 a0_1 a0_2 a0_3 a0_4 a0_5 true _ A2.out).mono ?_); rintro e w19 ⟨rfl, hb⟩; replace BK559 := xkb BK559 hb; replace HB := xA (below_step (xB1 GE559.out HB.out) hb); (try clear hb); obtain ⟨hcz20_0, hcz20_1, hcz20_2, hcz20_3, hcz20_4, hcz20_5, hfz20_0, hfz20_1, hfz20_2, hfz20_3, hfz20_4, hfz20_5⟩ := xZ6 BK559.out) | (go_at_call 349; (with_reducible refine (spec_l1Sign.calls (wrap64 ((wrap64 (a0_0 * a0_0)) + (ji5))) t561 _ A6.out).mono ?_); rintro e w' ⟨rfl, ⟨nd, rfl⟩⟩; (try exact xD))); try go_wp2_with (first | (refine xg 1 rfl ?_; refine xV 1 #[.int .i64 a0_0, .int .i64 a0_1, .int .i64 a0_2, .int .i64 a0_3, .int .i64 a0_4, .bool a0_5] 91 ?_; intro gb559 hg w17 hbox hb; have BK559 := xA (hbox); have GW559 := xgw hg (below_size (xB HB.out)); have GE559 := GW559; replace HB := xA (below_step (xB HB.out) hb); clear hb hbox hg; obtain ⟨hcz18_0, hcz18_1, hcz18_2, hcz18_3, hcz18_4, hcz18_5, hfz18_0, hfz18_1, hfz18_2, hfz18_3, hfz18_4, hfz18_5⟩ := xZ6 BK559.out) | (go_at_call 345; (with_reducible refine (spec_sdGood.calls a0_0 a0_1 a0_2 a0_3 a0_4 a0_5 true _ A2.out).mono ?_); rintro e w19 ⟨rfl, hb⟩; replace BK559 := xkb BK559 hb; replace HB := xA (below_step (xB1 GE559.out HB.out) hb); (try clear hb); obtain ⟨hcz20_0, hcz20_1, hcz20_2, hcz20_3, hcz20_4, hcz20_5, hfz20_0, hfz20_1, hfz20_2, hfz20_3, hfz20_4, hfz20_5⟩ := xZ6 BK559.out) | (go_at_call 349; (with_reducible refine (spec_l1Sign.calls (wrap64 ((wrap64 (a0_0 * a0_0)) + (ji5))) t561 _ A6.out).mono ?_); rintro e w' ⟨rfl, ⟨nd, rfl⟩⟩; (try exact xD))))
  go_ret2
  exact ⟨by first | rfl | (simp [errW_none, errW_some] <;> rfl) | (simp only [← hji5]; first | rfl | (simp [errW_none, errW_some] <;> rfl)) | (simp [*, errW_none, errW_some] <;> rfl), xB1 GE559.out HB.out⟩
 rw [if_pos c12] at H
 have c12b0 : (t561 == 0) = true := beq_iff_eq.mpr c12
 have c12b1 : (t561 != 0) = false := bne_eq_false_iff_eq.mpr c12
 clear c12
 simp only [Option.some.injEq, Prod.mk.injEq] at H
 obtain ⟨rfl, rfl⟩ := H
 go_enter Try.func153, Try.ntmps153
 go_wp2_with (first | (refine xg 1 rfl ?_; refine xV 1 #[.int .i64 a0_0, .int .i64 a0_1, .int .i64 a0_2, .int .i64 a0_3, .int .i64 a0_4, .bool a0_5] 91 ?_; intro gb559 hg w13 hbox hb; have BK559 := xA (hbox); have GW559 := xgw hg (below_size (xB HB.out)); have GE559 := GW559; replace HB := xA (below_step (xB HB.out) hb); clear hb hbox hg; obtain ⟨hcz14_0, hcz14_1, hcz14_2, hcz14_3, hcz14_4, hcz14_5, hfz14_0, hfz14_1, hfz14_2, hfz14_3, hfz14_4, hfz14_5⟩ := xZ6 BK559.out) | (go_at_call 345; (with_reducible refine (spec_sdGood.calls a0_0 a0_1 a0_2 a0_3 a0_4 a0_5 true _ A2.out).mono ?_); rintro e w15 ⟨rfl, hb⟩; replace BK559 := xkb BK559 hb; replace HB := xA (below_step (xB1 GE559.out HB.out) hb); (try clear hb); obtain ⟨hcz16_0, hcz16_1, hcz16_2, hcz16_3, hcz16_4, hcz16_5, hfz16_0, hfz16_1, hfz16_2, hfz16_3, hfz16_4, hfz16_5⟩ := xZ6 BK559.out) | (go_at_call 349; (with_reducible refine (spec_l1Sign.calls (wrap64 ((wrap64 (a0_0 * a0_0)) + (ji5))) t561 _ A6.out).mono ?_); rintro e w' ⟨rfl, ⟨nd, rfl⟩⟩; (try exact xD)))
 repeat (go_quiet (first | (refine xg 1 rfl ?_; refine xV 1 #[.int .i64 a0_0, .int .i64 a0_1, .int .i64 a0_2, .int .i64 a0_3, .int .i64 a0_4, .bool a0_5] 91 ?_; intro gb559 hg w13 hbox hb; have BK559 := xA (hbox); have GW559 := xgw hg (below_size (xB HB.out)); have GE559 := GW559; replace HB := xA (below_step (xB HB.out) hb); clear hb hbox hg; obtain ⟨hcz14_0, hcz14_1, hcz14_2, hcz14_3, hcz14_4, hcz14_5, hfz14_0, hfz14_1, hfz14_2, hfz14_3, hfz14_4, hfz14_5⟩ := xZ6 BK559.out) | (go_at_call 345; (with_reducible refine (spec_sdGood.calls a0_0 a0_1 a0_2 a0_3 a0_4 a0_5 true _ A2.out).mono ?_); rintro e w15 ⟨rfl, hb⟩; replace BK559 := xkb BK559 hb; replace HB := xA (below_step (xB1 GE559.out HB.out) hb); (try clear hb); obtain ⟨hcz16_0, hcz16_1, hcz16_2, hcz16_3, hcz16_4, hcz16_5, hfz16_0, hfz16_1, hfz16_2, hfz16_3, hfz16_4, hfz16_5⟩ := xZ6 BK559.out) | (go_at_call 349; (with_reducible refine (spec_l1Sign.calls (wrap64 ((wrap64 (a0_0 * a0_0)) + (ji5))) t561 _ A6.out).mono ?_); rintro e w' ⟨rfl, ⟨nd, rfl⟩⟩; (try exact xD))); try go_wp2_with (first | (refine xg 1 rfl ?_; refine xV 1 #[.int .i64 a0_0, .int .i64 a0_1, .int .i64 a0_2, .int .i64 a0_3, .int .i64 a0_4, .bool a0_5] 91 ?_; intro gb559 hg w13 hbox hb; have BK559 := xA (hbox); have GW559 := xgw hg (below_size (xB HB.out)); have GE559 := GW559; replace HB := xA (below_step (xB HB.out) hb); clear hb hbox hg; obtain ⟨hcz14_0, hcz14_1, hcz14_2, hcz14_3, hcz14_4, hcz14_5, hfz14_0, hfz14_1, hfz14_2, hfz14_3, hfz14_4, hfz14_5⟩ := xZ6 BK559.out) | (go_at_call 345; (with_reducible refine (spec_sdGood.calls a0_0 a0_1 a0_2 a0_3 a0_4 a0_5 true _ A2.out).mono ?_); rintro e w15 ⟨rfl, hb⟩; replace BK559 := xkb BK559 hb; replace HB := xA (below_step (xB1 GE559.out HB.out) hb); (try clear hb); obtain ⟨hcz16_0, hcz16_1, hcz16_2, hcz16_3, hcz16_4, hcz16_5, hfz16_0, hfz16_1, hfz16_2, hfz16_3, hfz16_4, hfz16_5⟩ := xZ6 BK559.out) | (go_at_call 349; (with_reducible refine (spec_l1Sign.calls (wrap64 ((wrap64 (a0_0 * a0_0)) + (ji5))) t561 _ A6.out).mono ?_); rintro e w' ⟨rfl, ⟨nd, rfl⟩⟩; (try exact xD))))
 go_ret2
 exact ⟨by first | rfl | (simp [errW_none, errW_some] <;> rfl) | (simp only [← hji5]; first | rfl | (simp [errW_none, errW_some] <;> rfl)) | (simp [*, errW_none, errW_some] <;> rfl), xB1 GE559.out HB.out⟩
/-! ### spec_l1Cur_sample: function 301 -/
def spec_l1Cur_sample.f (s0_0 : List Int) (s0_1 : Int) (s0_2 : Int) (a1 : Int) : Option (Int × Int × Int) := (spec_l1Cur_one.f s0_0 s0_1 s0_2 14).bind fun bt562 => (if bt562.1 = true then ((spec_l1Cur_among.f s0_0 bt562.2.1 bt562.2.2 (([100000, (-100000), 100001, (-4611686018427387904)] : List Int))).bind fun bt568 => (some (bt568.1, bt568.2.1, bt568.2.2))) else ((spec_l1Cur_pick.f s0_0 bt562.2.1 bt562.2.2 (wrap64 ((wrap64 (2 * a1)) + 1))).bind fun bt571 => (some (wrap64 (bt571.1 - a1), bt571.2.1, bt571.2.2))))
set_option maxHeartbeats 200000000 in
set_option maxRecDepth 100000 in
theorem spec_l1Cur_sample.calls (g : Nat) (s0_0 : List Int) (s0_1 : Int) (s0_2 : Int) (a1 : Int) (r1 : Int) (r2 : Int) (r3 : Int) (w0 w : World) (hI : IsS129 w0 w g s0_0 s0_1 s0_2) (hB : Below w0.heap.size w0 w) (h : spec_l1Cur_sample.f s0_0 s0_1 s0_2 a1 = some (r1, r2, r3)) :
  Calls Try.prog 301 #[.pointer (some ⟨g, 0, none⟩), .int .i64 a1] w fun e w' => e = .returned (.int .i64 r1) ∧ IsS129 w0 w' g s0_0 r2 r3 ∧ Below w0.heap.size w0 w' ∧ KeepBut w w' g none := by
 have HI0 := xA hI
 have HK := xA (KeepBut.refl w g none)
 have HL := xA hB.size
 clear hI
 have HW0 := xA hB.size
 have HB := xA hB
 clear hB
 have H : ((spec_l1Cur_one.f s0_0 s0_1 s0_2 14).bind fun bt562 => (if bt562.1 = true then ((spec_l1Cur_among.f s0_0 bt562.2.1 bt562.2.2 (([100000, (-100000), 100001, (-4611686018427387904)] : List Int))).bind fun bt568 => (some (bt568.1, bt568.2.1, bt568.2.2))) else ((spec_l1Cur_pick.f s0_0 bt562.2.1 bt562.2.2 (wrap64 ((wrap64 (2 * a1)) + 1))).bind fun bt571 => (some (wrap64 (bt571.1 - a1), bt571.2.1, bt571.2.2))))) = some (r1, r2, r3) := h
 clear h
 replace H := Option.bind_eq_some_iff.mp H
 obtain ⟨⟨t562, t563, t564⟩, A30, H⟩ := H
 (try dsimp only at H)
 have A3 := xA A30
 clear A30
 by_cases c4 : t562 = true
 rotate_left
 ·replace c4 := Bool.eq_false_iff.mpr c4
  subst c4
  rw [if_neg (show ¬ (false = true) by decide)] at H
  replace H := Option.bind_eq_some_iff.mp H
  obtain ⟨⟨t571, t572, t573⟩, A110, H⟩ := H
  (try dsimp only at H)
  have A11 := xA A110
  clear A110
  simp only [Option.some.injEq, Prod.mk.injEq] at H
  obtain ⟨rfl, rfl, rfl⟩ := H
  go_enter Try.func301, Try.ntmps301
  go_wp2_with (first | (refine xq rfl ?_; first | (refine xG (some 6) Try.func227 #[.pointer (some ⟨g, 0, none⟩), .int .i64 14] ?_; (with_reducible refine (spec_l1Cur_one.calls g s0_0 s0_1 s0_2 14 false t563 t564 w0 _ ?side1 ?side2 A3.out).mono ?_); (case side1 => exact xJ129_12_0 HI0.out); (case side2 => exact xB1 (IsS129.ge HI0.out) HB.out); rintro e w12 ⟨rfl, hi, hb, hk⟩; refine ⟨_, rfl, ?_⟩; replace HK := xA (KeepBut.trans (xH0 HK.out) hk (.inl rfl)); replace HB := xA (hb); replace HI0 := xA (hi); (try clear hb hk hi)) | (refine xG (some 14) Try.func229 #[.pointer (some ⟨g, 0, none⟩), .int .i64 (wrap64 ((wrap64 (2 * a1)) + 1))] ?_; (with_reducible refine (spec_l1Cur_pick.calls g s0_0 t563 t564 (wrap64 ((wrap64 (2 * a1)) + 1)) t571 t572 t573 w0 _ ?side1 ?side2 A11.out).mono ?_); (case side1 => exact xJ129_12_0 HI0.out); (case side2 => exact xB1 (IsS129.ge HI0.out) HB.out); rintro e w13 ⟨rfl, hi, hb, hk⟩; refine ⟨_, rfl, ?_⟩; replace HK := xA (KeepBut.trans (xH0 HK.out) hk (.inl rfl)); replace HB := xA (hb); replace HI0 := xA (hi); (try clear hb hk hi))))
  go_ret
  exact ⟨xr, xJ129_12_0 HI0.out, xB1 (IsS129.ge HI0.out) HB.out, xH0 HK.out⟩

 subst c4
 rw [if_pos rfl] at H
 obtain ⟨y565, hy565⟩ : ∃ y_ : List Int, y_ = (([100000, (-100000), 100001, (-4611686018427387904)] : List Int)) := ⟨_, rfl⟩
 replace H : ((spec_l1Cur_among.f s0_0 t563 t564 y565).bind fun bt568 => (some (bt568.1, bt568.2.1, bt568.2.2))) = some (r1, r2, r3) := by first | (rw [hy565]; with_reducible exact H) | (have H2_ := (Option.bind_some _ _).symm.trans H; rw [hy565]; with_reducible exact H2_) | (have H2_ := (Option.bind_some _ _).symm.trans H; with_reducible exact H2_) | with_reducible exact H | (rw [hy565]; exact H) | exact H
 have Ny565 := xA hy565
 clear hy565
 replace H := Option.bind_eq_some_iff.mp H
 obtain ⟨⟨t568, t569, t570⟩, A50, H⟩ := H
 (try dsimp only at H)
 have A5 := xA A50
 clear A50
 simp only [Option.some.injEq, Prod.mk.injEq] at H
 obtain ⟨rfl, rfl, rfl⟩ := H
 go_enter Try.func301, Try.ntmps301
 go_wp2_with (first | (refine xq rfl ?_; first | (refine xG (some 6) Try.func227 #[.pointer (some ⟨g, 0, none⟩), .int .i64 14] ?_; (with_reducible refine (spec_l1Cur_one.calls g s0_0 s0_1 s0_2 14 true t563 t564 w0 _ ?side1 ?side2 A3.out).mono ?_); (case side1 => exact xJ129_12_0 HI0.out); (case side2 => exact xB1 (IsS129.ge HI0.out) HB.out); rintro e w6 ⟨rfl, hi, hb, hk⟩; refine ⟨_, rfl, ?_⟩; replace HK := xA (KeepBut.trans (xH0 HK.out) hk (.inl rfl)); replace HB := xA (hb); replace HI0 := xA (hi); (try clear hb hk hi)) | (refine xG (some 9) Try.func228 #[.pointer (some ⟨g, 0, none⟩), .slice Ao9 y565.length co9] ?_; (with_reducible refine (spec_l1Cur_among.calls g s0_0 t563 t564 _ _ y565 t568 t569 t570 w0 _ ?side1 ?side2 ?side3 ?side4 ?side5 A5.out).mono ?_); (case side1 => exact xJ129_12_0 HI0.out); (case side2 => exact xB1 (IsS129.ge HI0.out) HB.out); (case side3 => exact xC ((Kd.R_reads' HO567.out).2.2)); (case side4 => exact (Kd.R_reads' HO567.out).2.1); (case side5 => exact far_slice (IsS129.own_ne HI0.out HO567.out (by decide))); rintro e w10 ⟨rfl, hi, hb, hk⟩; refine ⟨_, rfl, ?_⟩; replace HO567 := xA (Kd.R_mono (Kd.R_keep (IsS129.apart (show IsS129 w0 _ g s0_0 t563 t564 from xJ129_12_0 HI0.out) (xR HO567.out) (by decide)) hk (fun _ h => h.2)) (fun _ h => h.1)); replace HK := xA (KeepBut.trans (xH0 HK.out) hk (.inl rfl)); replace HB := xA (hb); replace HI0 := xA (hi); (try clear hb hk hi))) | ((with_reducible refine gate_dst (N := 8) rfl ?_); refine Kd.R_lit (Kd.int .i64) _ 3 ?hg (N := 8) ?hd (xs := ([100000, (-100000), 100001, (-4611686018427387904)] : List Int)) (inner := [.int .i64 100000, .int .i64 (-100000), .int .i64 100001, .int .i64 (-4611686018427387904)]) (ok := fun _ => True) (okp := fun _ => True) ?hr ?hp (fun _ hk => hk) trivial (Below.refl _ _) (Nat.le_refl _) (by simp) ?_; (case hd => rfl); (case hg => rfl); (case hr => first | (go_simp; done) | (go_simp; rfl)); (case hp => exact (Reps.one (show Kd.M (Kd.int .i64) _ _ _ 100000 [.int .i64 100000] from rfl) (Reps.one (show Kd.M (Kd.int .i64) _ _ _ (-100000) [.int .i64 (-100000)] from rfl) (Reps.one (show Kd.M (Kd.int .i64) _ _ _ 100001 [.int .i64 100001] from rfl) (Reps.one (show Kd.M (Kd.int .i64) _ _ _ (-4611686018427387904) [.int .i64 (-4611686018427387904)] from rfl) (Reps.none _ _)))))); intro v566 w7 ho8 hb hg_ hnew_; clear hg_ hnew_; (first | rw [← Ny565.out] at ho8 | (simp only [Int.reduceToNat] at ho8; rw [← Ny565.out] at ho8)); have HO567 := xA (Kd.R_lower ho8 (keep_size (w := w) (g := g) (row := none) (xH0 HK.out))); replace HK := xA (KeepBut.trans (xH0 HK.out) (KeepBut.of_below hb g none) (.inl rfl)); replace HB := xA (below_step (xB1 (IsS129.ge HI0.out) HB.out) hb); replace HI0 := xA (IsS129.below (xJ129_12_0 HI0.out) hb); clear hb ho8; obtain ⟨Ao9, co9, eo9⟩ := Kd.R_slice HO567.out; subst eo9))
 go_ret
 exact ⟨xr, xJ129_12_0 HI0.out, xB1 (IsS129.ge HI0.out) HB.out, xH0 HK.out⟩
end Go.Proofs.Ytjplcongellcmaa.PFnPairsRun
