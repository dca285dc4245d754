/- What each Go function that the statement FnFirstCycles reaches answers, proved call by call. No condition beyond those that the theorems print. (Written by wip/tools/xprint.py of this repo, over the kit's print.) -/
import Derived.Test.YtjplcongellcmaaPFnFirstCyclesx0
import Derived.Test.YtjplcongellcmaaPFnFirstCyclesx4
import Derived.Test.YtjplcongellcmaaPFnFirstCyclesx6
namespace Go.Proofs.Ytjplcongellcmaa.PFnFirstCycles
open Go.RowKit Go.Proofs.YtjplcongellcmaaW.PrintWords Go.Proofs.YtjplcongellcmaaW.PrintLast Go.Proofs.YtjplcongellcmaaW.PrintMore
attribute [local go_sem] max2_int min2_int max_two min_two max_three min_three max_four min_four   -- for this text's walks alone
set_option linter.unusedVariables false
set_option linter.unusedSimpArgs false
def x7a0 : Array Bool := #[Zz,Zz,Zz,Zz,Zz,Zz,Zz,Zz,Zz,Zz]
def x7a1 : Array Bool := #[Zz,Yy,Zz,Zz,Zz,Zz,Zz,Zz,Zz,Zz]
def x7a2 : Array Bool := #[Zz,Yy,Yy,Zz,Zz,Zz,Zz,Zz,Zz,Zz]
def x7a3 : Array Bool := #[Zz,Yy,Yy,Yy,Zz,Zz,Zz,Zz,Zz,Zz]
def x7a4 : Array Bool := #[Zz,Yy,Yy,Yy,Zz,Yy,Zz,Zz,Zz,Zz]
def x7a5 : Array Bool := #[Zz,Yy,Yy,Yy,Zz,Yy,Yy,Zz,Zz,Zz]
def x7a6 : Array Bool := #[Zz,Yy,Yy,Yy,Zz,Yy,Yy,Yy,Zz,Zz]
def x7a7 : Array Bool := #[Yy,Yy,Yy,Yy,Zz,Yy,Yy,Yy,Zz,Zz]
def x7a8 : Array Bool := #[Yy,Yy,Yy,Yy,Yy,Yy,Yy,Yy,Zz,Zz]
def x7a9 : Array Bool := #[Yy,Yy,Yy,Yy,Yy,Yy,Yy,Yy,Yy,Zz]
def x7a10 : Array Bool := #[Yy,Yy,Yy,Yy,Yy,Yy,Yy,Yy,Yy,Yy]
def x7a11 : Array Bool := #[Zz,Zz,Zz,Zz,Zz,Zz,Zz,Zz,Zz,Zz,Zz,Zz,Zz,Zz,Zz]
def x7a12 : Array Bool := #[Yy,Zz,Zz,Zz,Zz,Zz,Zz,Zz,Zz,Zz,Zz,Zz,Zz,Zz,Zz]
def x7a13 : Array Bool := #[Yy,Yy,Zz,Zz,Zz,Zz,Zz,Zz,Zz,Zz,Zz,Zz,Zz,Zz,Zz]
def x7a14 : Array Bool := #[Yy,Yy,Yy,Zz,Zz,Zz,Zz,Zz,Zz,Zz,Zz,Zz,Zz,Zz,Zz]
def x7a15 : Array Bool := #[Yy,Yy,Yy,Yy,Zz,Zz,Zz,Zz,Zz,Zz,Zz,Zz,Zz,Zz,Zz]
def x7a16 : Array Bool := #[Yy,Yy,Yy,Yy,Yy,Zz,Zz,Zz,Zz,Zz,Zz,Zz,Zz,Zz,Zz]
def x7a17 : Array Bool := #[Yy,Yy,Yy,Yy,Yy,Yy,Zz,Zz,Zz,Zz,Zz,Zz,Zz,Zz,Zz]
def x7a18 : Array Bool := #[Yy,Yy,Yy,Yy,Yy,Yy,Yy,Zz,Zz,Zz,Zz,Zz,Zz,Zz,Zz]
def x7a19 : Array Bool := #[Yy,Yy,Yy,Yy,Yy,Yy,Yy,Yy,Zz,Zz,Zz,Zz,Zz,Zz,Zz]
def x7a20 : Array Bool := #[Yy,Yy,Yy,Yy,Yy,Yy,Yy,Yy,Yy,Zz,Zz,Zz,Zz,Zz,Zz]
def x7a21 : Array Bool := #[Yy,Yy,Yy,Yy,Yy,Yy,Yy,Yy,Yy,Yy,Zz,Zz,Zz,Zz,Zz]
def x7a22 : Array Bool := #[Yy,Yy,Yy,Yy,Yy,Yy,Yy,Yy,Yy,Yy,Yy,Zz,Zz,Zz,Zz]
def x7a23 : Array Bool := #[Yy,Yy,Yy,Yy,Yy,Yy,Yy,Yy,Yy,Yy,Yy,Yy,Zz,Zz,Zz]
def x7a24 : Array Bool := #[Yy,Yy,Yy,Yy,Yy,Yy,Yy,Yy,Yy,Yy,Yy,Yy,Yy,Zz,Zz]
def x7a25 : Array Bool := #[Yy,Yy,Yy,Yy,Yy,Yy,Yy,Yy,Yy,Yy,Yy,Yy,Yy,Yy,Zz]
def x7a26 : Array Bool := #[Yy,Yy,Yy,Yy,Yy,Yy,Yy,Yy,Yy,Yy,Yy,Yy,Yy,Yy,Yy]
def x7a27 : Array Bool := #[Yy,Yy,Yy,Yy,Yy,Yy,Yy,Zz,Zz,Zz,Yy,Zz,Zz,Zz,Zz]
def x7a28 : Array Bool := #[Yy,Yy,Yy,Yy,Yy,Yy,Yy,Zz,Zz,Zz,Yy,Yy,Zz,Zz,Zz]
def x7a29 : Array Bool := #[Yy,Yy,Yy,Yy,Yy,Yy,Yy,Yy,Zz,Zz,Yy,Yy,Zz,Zz,Zz]
def x7a30 : Array Bool := #[Yy,Yy,Yy,Yy,Yy,Yy,Yy,Yy,Yy,Zz,Yy,Yy,Zz,Zz,Zz]

/-! ### spec_foCycles: function 307 -/
mutual
def spec_foCycles.l0 : Nat → Int → Int → List Int → List Int → Int → Int → Int → Int → Int → Bool → Option ((List (List Int)))
 | 0, _, _, _, _, _, _, _, _, _, _ => none
 | k + 1, x1, x5, x6, x7, x8, x285000, x285001, x285002, x285003, x285004 => (spec_wdHigh.f x285003 x285004).bind fun t289 => (if x8 ≤ t289 then (spec_foCycles.l1 k x1 x5 x6 x7 x8 x8 x285000 x285001 x285002 x285003 x285004) else (spec_foCycles.l2 k x1 ([] : List (List Int)) x7 (x7.length : Int) 0 x285000 x285001 x285002 x285003 x285004))
def spec_foCycles.l1 : Nat → Int → Int → List Int → List Int → Int → Int → Int → Int → Int → Int → Bool → Option ((List (List Int)))
 | 0, _, _, _, _, _, _, _, _, _, _, _ => none
 | k + 1, x1, x5, x6, x7, x8, x9, x285000, x285001, x285002, x285003, x285004 => if 0 ≤ (wrap64 (x9 - x5)) then (if (wrap64 (x9 - x5)) < (x6.length : Int) then (if (rd x6 (wrap64 (x9 - x5))) = 0 then ((spec_foStep.f k x285000 x285001 x285002 x285003 x285004 x9 x1).bind fun t292 => (spec_foCycles.l1 k x1 x5 (x6.set ((wrap64 (x9 - x5)) : Int).toNat (wrap64 ((wrap64 (x8 - x5)) + 1))) x7 x8 t292 x285000 x285001 x285002 x285003 x285004)) else (if (rd x6 (wrap64 (x9 - x5))) = (wrap64 ((wrap64 (x8 - x5)) + 1)) then (if x7.length < 17592186044416 then (spec_foCycles.l0 k x1 x5 x6 (x7 ++ [x9]) (wrap64 (x8 + 1)) x285000 x285001 x285002 x285003 x285004) else (none)) else (spec_foCycles.l0 k x1 x5 x6 x7 (wrap64 (x8 + 1)) x285000 x285001 x285002 x285003 x285004))) else (none)) else (none)
def spec_foCycles.l2 : Nat → Int → List (List Int) → List Int → Int → Int → Int → Int → Int → Int → Bool → Option ((List (List Int)))
 | 0, _, _, _, _, _, _, _, _, _, _ => none
 | k + 1, x1, x10, x70, x71, x72, x285000, x285001, x285002, x285003, x285004 => if x72 < x71 then (if 0 ≤ x72 then (if x72 < (x70.length : Int) then ((spec_foStep.f k x285000 x285001 x285002 x285003 x285004 (rd x70 x72) x1).bind fun t301 => (spec_foCycles.l3 k x1 x10 (rd x70 x72) (([rd x70 x72] : List Int)) 0 t301 x70 x71 x72 x285000 x285001 x285002 x285003 x285004)) else (none)) else (none)) else (some x10)
def spec_foCycles.l3 : Nat → Int → List (List Int) → Int → List Int → Int → Int → List Int → Int → Int → Int → Int → Int → Int → Bool → Option ((List (List Int)))
 | 0, _, _, _, _, _, _, _, _, _, _, _, _, _, _ => none
 | k + 1, x1, x10, x12, x13, x14, x15, x70, x71, x72, x285000, x285001, x285002, x285003, x285004 => if x15 = x12 then ((some (([] : List Int) : List Int)).bind fun y311 => (if 0 ≤ x14 then (if x14 ≤ (x13.length : Int) then ((some (x13.drop (x14 : Int).toNat : List Int)).bind fun y314 => (if y311.length + y314.length < 17592186044416 then ((some (y311 ++ y314 : List Int)).bind fun y319 => ((some (x13.take (x14 : Int).toNat : List Int)).bind fun y322 => (if y319.length + y322.length < 17592186044416 then (spec_foCycles.l4 k x1 x10 (y319 ++ y322) (x10.length : Int) x70 x71 x72 x285000 x285001 x285002 x285003 x285004) else (none)))) else (none))) else (none)) else (none))) else (if 0 ≤ x14 then (if x14 < (x13.length : Int) then (if x15 < (rd x13 x14) then (if x13.length < 17592186044416 then ((spec_foStep.f k x285000 x285001 x285002 x285003 x285004 x15 x1).bind fun t306 => (spec_foCycles.l3 k x1 x10 x12 (x13 ++ [x15]) (x13.length : Int) t306 x70 x71 x72 x285000 x285001 x285002 x285003 x285004)) else (none)) else (if x13.length < 17592186044416 then ((spec_foStep.f k x285000 x285001 x285002 x285003 x285004 x15 x1).bind fun t310 => (spec_foCycles.l3 k x1 x10 x12 (x13 ++ [x15]) x14 t310 x70 x71 x72 x285000 x285001 x285002 x285003 x285004)) else (none))) else (none)) else (none))
def spec_foCycles.l4 : Nat → Int → List (List Int) → List Int → Int → List Int → Int → Int → Int → Int → Int → Int → Bool → Option ((List (List Int)))
 | 0, _, _, _, _, _, _, _, _, _, _, _, _ => none
 | k + 1, x1, x10, x13, x16, x70, x71, x72, x285000, x285001, x285002, x285003, x285004 => if x16 > 0 then (if 0 ≤ (wrap64 (x16 - 1)) then (if (wrap64 (x16 - 1)) < (x10.length : Int) then (if 0 < ((rd_L5 x10 (wrap64 (x16 - 1))).length : Int) then (if 0 < (x13.length : Int) then (if (rd (rd_L5 x10 (wrap64 (x16 - 1))) 0) > (rd x13 0) then (spec_foCycles.l4 k x1 x10 x13 (wrap64 (x16 - 1)) x70 x71 x72 x285000 x285001 x285002 x285003 x285004) else ((some (([] : List (List Int)) : List (List Int))).bind fun y333 => (if 0 ≤ x16 then (if x16 ≤ (x10.length : Int) then ((some (x10.take (x16 : Int).toNat : List (List Int))).bind fun y336 => (if y333.length + y336.length < 5864062014805 then ((some (y333 ++ y336 : List (List Int))).bind fun y341 => (if y341.length < 5864062014805 then ((some (y341 ++ [x13] : List (List Int))).bind fun y344 => ((some (x10.drop (x16 : Int).toNat : List (List Int))).bind fun y347 => (if y344.length + y347.length < 5864062014805 then (spec_foCycles.l2 k x1 (y344 ++ y347) x70 x71 (wrap64 (x72 + 1)) x285000 x285001 x285002 x285003 x285004) else (none)))) else (none))) else (none))) else (none)) else (none)))) else (none)) else (none)) else (none)) else (none)) else ((some (([] : List (List Int)) : List (List Int))).bind fun y355 => (if 0 ≤ x16 then (if x16 ≤ (x10.length : Int) then ((some (x10.take (x16 : Int).toNat : List (List Int))).bind fun y358 => (if y355.length + y358.length < 5864062014805 then ((some (y355 ++ y358 : List (List Int))).bind fun y363 => (if y363.length < 5864062014805 then ((some (y363 ++ [x13] : List (List Int))).bind fun y366 => ((some (x10.drop (x16 : Int).toNat : List (List Int))).bind fun y369 => (if y366.length + y369.length < 5864062014805 then (spec_foCycles.l2 k x1 (y366 ++ y369) x70 x71 (wrap64 (x72 + 1)) x285000 x285001 x285002 x285003 x285004) else (none)))) else (none))) else (none))) else (none)) else (none)))
end
def spec_foCycles.f (k : Nat) (a0_0 : Int) (a0_1 : Int) (a0_2 : Int) (a0_3 : Int) (a0_4 : Bool) (a1 : Int) : Option ((List (List Int))) := (spec_wdLow.f a0_3 a0_4).bind fun t285 => (if 0 ≤ a0_3 then (if 0 ≤ (shl .i64 1 a0_3) then (if (shl .i64 1 a0_3 : Int).toNat ≤ 35184372088832 then (spec_foCycles.l0 k a1 t285 (List.replicate (shl .i64 1 a0_3 : Int).toNat 0) ([] : List Int) t285 a0_0 a0_1 a0_2 a0_3 a0_4) else (none)) else (none)) else (none))
theorem spec_foCycles.mono_l : ∀ k, (∀ y0 y1 y2 y3 y4 y5 y6 y7 y8 y9, LeO (spec_foCycles.l0 k y0 y1 y2 y3 y4 y5 y6 y7 y8 y9) (spec_foCycles.l0 (k + 1) y0 y1 y2 y3 y4 y5 y6 y7 y8 y9)) ∧ (∀ y0 y1 y2 y3 y4 y5 y6 y7 y8 y9 y10, LeO (spec_foCycles.l1 k y0 y1 y2 y3 y4 y5 y6 y7 y8 y9 y10) (spec_foCycles.l1 (k + 1) y0 y1 y2 y3 y4 y5 y6 y7 y8 y9 y10)) ∧ (∀ y0 y1 y2 y3 y4 y5 y6 y7 y8 y9, LeO (spec_foCycles.l2 k y0 y1 y2 y3 y4 y5 y6 y7 y8 y9) (spec_foCycles.l2 (k + 1) y0 y1 y2 y3 y4 y5 y6 y7 y8 y9)) ∧ (∀ y0 y1 y2 y3 y4 y5 y6 y7 y8 y9 y10 y11 y12 y13, LeO (spec_foCycles.l3 k y0 y1 y2 y3 y4 y5 y6 y7 y8 y9 y10 y11 y12 y13) (spec_foCycles.l3 (k + 1) y0 y1 y2 y3 y4 y5 y6 y7 y8 y9 y10 y11 y12 y13)) ∧ (∀ y0 y1 y2 y3 y4 y5 y6 y7 y8 y9 y10 y11, LeO (spec_foCycles.l4 k y0 y1 y2 y3 y4 y5 y6 y7 y8 y9 y10 y11) (spec_foCycles.l4 (k + 1) y0 y1 y2 y3 y4 y5 y6 y7 y8 y9 y10 y11))
 | 0 => ⟨fun _ _ _ _ _ _ _ _ _ _ r h => by simp [spec_foCycles.l0] at h, fun _ _ _ _ _ _ _ _ _ _ _ r h => by simp [spec_foCycles.l1] at h, fun _ _ _ _ _ _ _ _ _ _ r h => by simp [spec_foCycles.l2] at h, fun _ _ _ _ _ _ _ _ _ _ _ _ _ _ r h => by simp [spec_foCycles.l3] at h, fun _ _ _ _ _ _ _ _ _ _ _ _ r h => by simp [spec_foCycles.l4] at h⟩
 | k + 1 => by
  obtain ⟨ih0, ih1, ih2, ih3, ih4⟩ := spec_foCycles.mono_l k
  have m0 := @spec_foStep.mono
  refine ⟨?_, ?_, ?_, ?_, ?_⟩ <;> intros
  ·unfold spec_foCycles.l0; exact xM
  ·unfold spec_foCycles.l1; exact xM
  ·unfold spec_foCycles.l2; exact xM
  ·unfold spec_foCycles.l3; exact xM
  ·unfold spec_foCycles.l4; exact xM
theorem spec_foCycles.mono : ∀ a0 a1 a2 a3 a4 a5 k, LeO (spec_foCycles.f k a0 a1 a2 a3 a4 a5) (spec_foCycles.f (k + 1) a0 a1 a2 a3 a4 a5) := by
 intro a0 a1 a2 a3 a4 a5 k
 obtain ⟨ih0, ih1, ih2, ih3, ih4⟩ := spec_foCycles.mono_l k
 have m0 := @spec_foStep.mono
 unfold spec_foCycles.f
 exact xM
def spec_foCycles.T25 : Bool × List (List Nat × List Nat) := (true, [([], []), ([], []), ([], []), ([1, 2], [1, 2]), ([0, 3], [0, 3]), ([], []), ([], []), ([5, 6], [5, 6]), ([4, 7, 4], [4, 7]), ([8, 8, 0, 1, 2, 3, 4, 5, 6, 7, 8], [1, 5, 8])])
def spec_foCycles.B25 : List Nat := [0, 0, 0, 6, 15, 0, 0, 96, 255, 511]
theorem spec_foCycles.tab25 : rtab .any (opsOf Try.f307 25) = spec_foCycles.T25 := by kernel_rfl
theorem spec_foCycles.bits25 : waitsOk spec_foCycles.T25.2 spec_foCycles.B25 = true := by kernel_rfl
def spec_foCycles.T27 : Bool × List (List Nat × List Nat) := (true, [([], []), ([0], [0]), ([1], [1]), ([2], [2]), ([2], [2]), ([4, 2], [2, 4]), ([3, 5, 2], [2, 3, 5]), ([6, 2], [2, 6]), ([7, 2], [2, 7]), ([8, 2], [2, 8]), ([2], [2]), ([10, 2], [2, 10]), ([11, 2], [2, 11]), ([9, 12, 2], [2, 9, 12]), ([2, 13], [2, 13])])
def spec_foCycles.B27 : List Nat := [0, 1, 3, 7, 7, 23, 63, 127, 255, 511, 7, 1031, 3079, 8191, 16383]
theorem spec_foCycles.tab27 : rtab .any (opsOf Try.f307 27) = spec_foCycles.T27 := by kernel_rfl
theorem spec_foCycles.bits27 : waitsOk spec_foCycles.T27.2 spec_foCycles.B27 = true := by kernel_rfl
set_option maxHeartbeats 200000000 in
set_option maxRecDepth 100000 in
theorem spec_foCycles.calls (k : Nat) (a0_0 : Int) (a0_1 : Int) (a0_2 : Int) (a0_3 : Int) (a0_4 : Bool) (a1 : Int) (r : List (List Int)) (w : World) (h : spec_foCycles.f k a0_0 a0_1 a0_2 a0_3 a0_4 a1 = some r) :
  Calls Try.prog 307 #[.agg #[.int .i64 a0_0, .int .i64 a0_1, .int .i64 a0_2, .int .i64 a0_3, .bool a0_4], .int .i64 a1] w fun e w' => ∃ v0_ : Value, e = .returned (v0_) ∧ Kd.N (Kd.slice 3 (Kd.int .i64)) 24 w' w.heap.size (fun k_ => (w.heap.size ≤ k_)) v0_ r ∧ Below w.heap.size w w' := by
 have hu62 := Try.underlying62
 have hu46 := Try.underlying46
 have HB := xA (Below.refl w.heap.size w)
 have H : ((spec_wdLow.f a0_3 a0_4).bind fun t285 => (if 0 ≤ a0_3 then (if 0 ≤ (shl .i64 1 a0_3) then (if (shl .i64 1 a0_3 : Int).toNat ≤ 35184372088832 then (spec_foCycles.l0 k a1 t285 (List.replicate (shl .i64 1 a0_3 : Int).toNat 0) ([] : List Int) t285 a0_0 a0_1 a0_2 a0_3 a0_4) else (none)) else (none)) else (none))) = some r := h
 clear h
 obtain ⟨t285, A3, H⟩ := xO H
 (try dsimp only at H)
 by_cases c4 : 0 ≤ a0_3
 rotate_left
 ·rw [if_neg c4] at H
  exact absurd H (by simp)

 rw [if_pos c4] at H
 have c4b0 := eq_true c4
 have c4b1 : decide (0 ≤ a0_3) = true := decide_eq_true c4
 clear c4
 obtain ⟨ji5, hji5⟩ : ∃ j_ : Int, (shl .i64 1 a0_3) = j_ := ⟨_, rfl⟩
 (first | rw [hji5] at H | simp only [hji5] at H)
 (try rw [hji5] at A3)
 have hji5_ : (IntKind.i64.wrap (1 * 2 ^ min a0_3.toNat 64)) = ji5 := hji5
 have hji5z : a0_3 ≤ 64 → (IntKind.i64.wrap (1 * 2 ^ a0_3.toNat)) = ji5 := shl_small hji5
 have hji5u : (IntKind.i64.wrap (2 ^ min a0_3.toNat 64)) = ji5 := by have h_ := hji5_; rw [Int.one_mul] at h_; exact h_
 have hji5v : a0_3 ≤ 64 → (IntKind.i64.wrap (2 ^ a0_3.toNat)) = ji5 := fun hle_ => by have h_ := hji5z hle_; rw [Int.one_mul] at h_; exact h_
 have hji5y : (wrap64 (1 * 2 ^ min a0_3.toNat 64)) = ji5 := (i64_w _).symm.trans hji5_
 have hji5x : a0_3 ≤ 64 → (wrap64 (1 * 2 ^ a0_3.toNat)) = ji5 := fun h_ => (i64_w _).symm.trans (hji5z h_)
 by_cases c6 : 0 ≤ (ji5)
 rotate_left
 ·rw [if_neg c6] at H
  exact absurd H (by simp)
 rw [if_pos c6] at H
 have c6b0 := eq_true c6
 have c6b1 : decide (0 ≤ (ji5)) = true := decide_eq_true c6
 clear c6
 by_cases c7 : (ji5 : Int).toNat ≤ 35184372088832
 rotate_left
 ·rw [if_neg c7] at H
  exact absurd H (by simp)
 rw [if_pos c7] at H
 have c7b0 := eq_true c7
 have c7b1 : decide ((ji5 : Int).toNat ≤ 35184372088832) = true := decide_eq_true c7
 clear c7
 obtain ⟨y286, hy286⟩ : ∃ y_ : List Int, y_ = (List.replicate (ji5 : Int).toNat 0) := ⟨_, rfl⟩
 replace H : (spec_foCycles.l0 k a1 t285 y286 ([] : List Int) t285 a0_0 a0_1 a0_2 a0_3 a0_4) = some r := by first | (rw [hy286]; with_reducible exact H) | (have H2_ := (Option.bind_some _ _).symm.trans H; rw [hy286]; with_reducible exact H2_) | (have H2_ := (Option.bind_some _ _).symm.trans H; with_reducible exact H2_) | with_reducible exact H | (rw [hy286]; exact H) | exact H
 have Ny286 := xA hy286
 clear hy286
 have H' := xA H
 clear H
 go_enter Try.func307, Try.ntmps307
 go_wp2_with (first | (refine xg 2 rfl ?_; refine xV 2 #[.int .i64 a0_0, .int .i64 a0_1, .int .i64 a0_2, .int .i64 a0_3, .bool a0_4] 62 ?_; intro gb284 hg w8 hbox hb; have BK284 := xA (hbox); have GW284 := xgw hg (below_size (xB HB.out)); have GE284 := GW284; replace HB := xA (below_step (xB HB.out) hb); clear hb hbox hg; obtain ⟨hcz9_0, hcz9_1, hcz9_2, hcz9_3, hcz9_4, hfz9_0, hfz9_1, hfz9_2, hfz9_3, hfz9_4⟩ := xZ5 BK284.out) | (refine xG (some 20) Try.func268 #[.agg #[.int .i64 a0_3, .bool a0_4]] ?_; (with_reducible refine (spec_wdLow.calls a0_3 a0_4 t285 _ A3.out).mono ?_); rintro e w10 ⟨rfl, hb⟩; refine ⟨_, rfl, ?_⟩; replace BK284 := xkb BK284 hb; replace HB := xA (below_step (xB1 GE284.out HB.out) hb); (try clear hb); obtain ⟨hcz11_0, hcz11_1, hcz11_2, hcz11_3, hcz11_4, hfz11_0, hfz11_1, hfz11_2, hfz11_3, hfz11_4⟩ := xZ5 BK284.out) | ((with_reducible refine gate_dst (N := 25) rfl ?_); refine Kd.R_make (Kd.int .i64) _ 3 rfl (N := 25) rfl 24 _ _ rfl ji5 rfl rfl Try.underlying24 (.int .i64 0) 8 info3 rfl (by decide) (by omega) 0 (ok := fun _ => True) (okp := fun _ => True) rfl (fun _ hk => hk) trivial (of_decide_eq_true (by first | (with_reducible assumption) | assumption)) (Nat.le_trans (Nat.mul_le_mul_right _ (of_decide_eq_true (by first | (with_reducible assumption) | assumption) : ji5.toNat ≤ 35184372088832)) (by omega)) (Below.refl _ _) (Nat.le_refl _) ?_; intro v287 w12 ho13 hb hg_ hnew_; clear hg_ hnew_; (first | rw [← Ny286.out] at ho13 | (simp only [Int.reduceToNat] at ho13; rw [← Ny286.out] at ho13)); have HO288 := xA (Kd.R_lower (Kd.R_newM (M := fun k_ => (w.heap.size ≤ k_)) ho13 (below_size (xB1 GE284.out HB.out)) (fun k_ h_ => h_)) (below_size (xB1 GE284.out HB.out))); replace BK284 := xkb BK284 hb; replace HB := xA (below_step (xB1 GE284.out HB.out) hb); clear hb ho13))
 go_loopg [7, 8] k (fun kq v7 v8 w' => ∃ (x6_1 : List Int) (x7_1 : List Int) (x8_1 : Int), v8 = .int .i64 x8_1 ∧ Aside0 (spec_foCycles.l0 kq a1 t285 x6_1 x7_1 x8_1 a0_0 a0_1 a0_2 a0_3 a0_4 = some r) ∧ Aside0 (kq ≤ k) ∧ Aside0 (Kd.R (Kd.int .i64) 3 w' w.heap.size (fun k_ => (w.heap.size ≤ k_) ∧ some k_ ≠ (v7 : Value).ownBlock) v287 x6_1) ∧ Aside0 (Kd.R (Kd.int .i64) 3 w' w.heap.size (fun k_ => (w.heap.size ≤ k_) ∧ some k_ ≠ (v287 : Value).ownBlock) v7 x7_1) ∧ Aside0 (w'.heap[gb284]? = some (.cells #[.int .i64 a0_0, .int .i64 a0_1, .int .i64 a0_2, .int .i64 a0_3, .bool a0_4] 62 (0, 0))) ∧ Aside0 (Below w.heap.size w w'))
 case atStart => exact ⟨(y286), (([] : List Int)), (t285), xs, H', ⟨Nat.le_refl _⟩, ⟨by (with_reducible repeat (first | apply Kd.R_alloc | apply Kd.R_drewN | apply Kd.R_drew)); exact Kd.R_mono HO288.out (fun _ hk => ⟨hk.1, (by simp [Value.ownBlock])⟩)⟩, ⟨by first | exact Kd.R_nil _ _ _ _ _ | exact Kd.N_nil _ _ _ _ _ | exact Kd.V_nil _ _ _ _ _ | exact Kd.Q_nil _ _ _ _ _ | exact Kd.S_nil _ _ _ _ _⟩, ⟨xK BK284.out⟩, ⟨xB1 GE284.out HB.out⟩⟩
 case round =>
  clear H'
  try clear c4b0
  try clear c4b1
  try clear c6b0
  try clear c6b1
  try clear c7b0
  try clear c7b1
  try clear hcz11_0
  try clear hcz11_1
  try clear hcz11_2
  try clear hcz11_3
  try clear hcz11_4
  try clear hcz9_0
  try clear hcz9_1
  try clear hcz9_2
  try clear hcz9_3
  try clear hcz9_4
  try clear hfz11_0
  try clear hfz11_1
  try clear hfz11_2
  try clear hfz11_3
  try clear hfz11_4
  try clear hfz9_0
  try clear hfz9_1
  try clear hfz9_2
  try clear hfz9_3
  try clear hfz9_4
  obtain ⟨x6_1, x7_1, x8_1, rfl, HA, HK1, HO_6, HO_7, BK284, HB⟩ := hrel
  cases gk with
  | zero => exact absurd HA.out (by simp [spec_foCycles.l0])
  | succ k1 =>
   have H := HA.out
   clear HA
   simp only [spec_foCycles.l0] at H
   obtain ⟨t289, A14, H⟩ := xO H
   (try dsimp only at H)
   by_cases c15 : x8_1 ≤ t289
   ·rw [if_pos c15] at H
    have c15b0 : decide (x8_1 ≤ t289) = true := decide_eq_true c15
    clear c15
    have H' := xA H
    clear H
    obtain ⟨hcz16_0, hcz16_1, hcz16_2, hcz16_3, hcz16_4, hfz16_0, hfz16_1, hfz16_2, hfz16_3, hfz16_4⟩ := xZ5 BK284.out
    go_wp2_with (first | (refine xG (some 30) Try.func269 #[.agg #[.int .i64 a0_3, .bool a0_4]] ?_; (with_reducible refine (spec_wdHigh.calls a0_3 a0_4 t289 _ A14.out).mono ?_); rintro e w17 ⟨rfl, hb⟩; refine ⟨_, rfl, ?_⟩; replace HO_6 := xA (Kd.R_below (xR HO_6.out) hb); replace HO_7 := xA (Kd.R_below (xR HO_7.out) hb); replace BK284 := xkb BK284 hb; replace HB := xA (below_step (xB1 GE284.out HB.out) hb); (try clear hb)))
    go_loopg [9] k1 (fun kq v9 w' => ∃ (x6_2 : List Int) (x9_2 : Int), v9 = .int .i64 x9_2 ∧ Aside0 (spec_foCycles.l1 kq a1 t285 x6_2 x7_1 x8_1 x9_2 a0_0 a0_1 a0_2 a0_3 a0_4 = some r) ∧ Aside0 (kq ≤ k1) ∧ Aside0 (Kd.R (Kd.int .i64) 3 w' w.heap.size (fun k_ => (w.heap.size ≤ k_) ∧ some k_ ≠ (u7 : Value).ownBlock) v287 x6_2) ∧ Aside0 (Kd.R (Kd.int .i64) 3 w' w.heap.size (fun k_ => (w.heap.size ≤ k_) ∧ some k_ ≠ (v287 : Value).ownBlock) u7 x7_1) ∧ Aside0 (w'.heap[gb284]? = some (.cells #[.int .i64 a0_0, .int .i64 a0_1, .int .i64 a0_2, .int .i64 a0_3, .bool a0_4] 62 (0, 0))) ∧ Aside0 (Below w.heap.size w w'))
    case atStart => exact ⟨(x6_1), (x8_1), xs, H', ⟨Nat.le_refl _⟩, ⟨xR HO_6.out⟩, ⟨xR HO_7.out⟩, ⟨xK BK284.out⟩, ⟨xB1 GE284.out HB.out⟩⟩
    case round =>
     clear H'
     try clear c15b0
     try clear hcz16_0
     try clear hcz16_1
     try clear hcz16_2
     try clear hcz16_3
     try clear hcz16_4
     try clear hfz16_0
     try clear hfz16_1
     try clear hfz16_2
     try clear hfz16_3
     try clear hfz16_4
     obtain ⟨x6_2, x9_2, rfl, HA, HK2, HO_6, HO_7, BK284, HB⟩ := hrel
     cases gk with
     | zero => exact absurd HA.out (by simp [spec_foCycles.l1])
     | succ k2 =>
      have H := HA.out
      clear HA
      simp only [spec_foCycles.l1] at H
      obtain ⟨ji18, hji18⟩ : ∃ j_ : Int, (wrap64 (x9_2 - t285)) = j_ := ⟨_, rfl⟩
      (first | rw [hji18] at H | simp only [hji18] at H)
      have hji18w : (IntKind.i64.wrap (x9_2 - t285)) = ji18 := (i64_w _).trans hji18
      by_cases c19 : 0 ≤ (ji18)
      rotate_left
      ·rw [if_neg c19] at H
       exact absurd H (by simp)
      rw [if_pos c19] at H
      have c19b0 : decide (0 ≤ (ji18)) = true := decide_eq_true c19
      clear c19
      by_cases c20 : (ji18) < (x6_2.length : Int)
      rotate_left
      ·rw [if_neg c20] at H
       exact absurd H (by simp)
      rw [if_pos c20] at H
      have c20b0 : decide ((ji18) < (x6_2.length : Int)) = true := decide_eq_true c20
      clear c20
      by_cases c21 : (rd x6_2 (ji18)) = 0
      ·rw [if_pos c21] at H
       have c21b0 : ((rd x6_2 (ji18)) == 0) = true := beq_iff_eq.mpr c21
       have c21b1 : ((rd x6_2 (ji18)) != 0) = false := bne_eq_false_iff_eq.mpr c21
       clear c21
       obtain ⟨y291, hy291⟩ : ∃ y_ : List Int, y_ = (x6_2.set ((ji18) : Int).toNat (wrap64 ((wrap64 (x8_1 - t285)) + 1))) := ⟨_, rfl⟩
       replace H : ((spec_foStep.f k2 a0_0 a0_1 a0_2 a0_3 a0_4 x9_2 a1).bind fun t292 => (spec_foCycles.l1 k2 a1 t285 y291 x7_1 x8_1 t292 a0_0 a0_1 a0_2 a0_3 a0_4)) = some r := by first | (rw [hy291]; with_reducible exact H) | (have H2_ := (Option.bind_some _ _).symm.trans H; rw [hy291]; with_reducible exact H2_) | (have H2_ := (Option.bind_some _ _).symm.trans H; with_reducible exact H2_) | with_reducible exact H | (rw [hy291]; exact H) | exact H
       have Ny291 := xA hy291
       clear hy291
       obtain ⟨t292, A23, H⟩ := xO H
       (try dsimp only at H)
       have H' := xA H
       clear H
       obtain ⟨Ao24, co24, eo24⟩ := Kd.R_slice HO_6.out
       subst eo24
       have p290 : 0 ≤ ((ji18) : Int) := of_decide_eq_true (by first | (with_reducible assumption) | assumption | (rw [← hji18]; first | (with_reducible assumption) | assumption))
       have q290 : (ji18) < (x6_2.length : Int) := of_decide_eq_true (by first | (with_reducible assumption) | assumption | (rw [← hji18]; first | (with_reducible assumption) | assumption))
       obtain ⟨ad290, e290, hx290_0⟩ := Kd.at_int (Kd.R_reads' HO_6.out).2.2 (ji18) p290 q290
       cases e290
       replace p290 := eq_true p290
       replace q290 := eq_true q290
       have p22 : 0 ≤ ((ji18) : Int) := of_decide_eq_true (by first | (with_reducible assumption) | assumption | (rw [← hji18]; first | (with_reducible assumption) | assumption))
       have q22 : ((ji18) : Int) < ((x6_2.length : Int) : Int) := of_decide_eq_true (by first | (with_reducible assumption) | assumption | (rw [← hji18]; first | (with_reducible assumption) | assumption))
       obtain ⟨go22, co22, eo22, gb22, gl22, cl22, HG22⟩ := Kd.R_form HO_6.out (by omega)
       (first | cases eo22 | (injection eo22 with ea_ en_ ec_; (first | subst ea_ | (injection ea_ with ea_; subst ea_)); subst ec_; clear en_))
       have GB22 := xA gb22
       have GG22 := xA HG22
       clear gb22 gl22 HG22
       (first | simp only [add_plain] at hx290_0 | skip)
       obtain ⟨hx22_0, hf22_0⟩ := Kd.R_celln 0 HO_6.out ((ji18) : Int) p22 q22
       replace p22 := eq_true p22
       replace q22 := eq_true q22
       have HP25 := Kd.R_putg HO_6.out ((ji18) : Int) (wrap64 ((wrap64 (x8_1 - t285)) + 1))
       go_wp2_with (first | ((with_reducible refine gate_store (t := 3) (p := 50) rfl ?_); refine store_event (t := 3) (p := 50) (v := ?vo_w26) (w1 := (wr.setCell ⟨go22, ((ji18) : Int).toNat, none⟩ (.int .i64 (wrap64 ((wrap64 (x8_1 - t285)) + 1))))) ?hg ?ho ?hn ?hr ?_; (case ho => rfl); (case hg => rfl); (case hn => rfl); (case hr => first | (go_simp; done) | (go_simp; rfl)); intro w26 hw; have hg : wr.grownBy w26 (some go22) := (by rw [hw]; exact HP25.2); have hp_ : Kd.R (Kd.int .i64) 3 w26 w.heap.size (fun k_ => (w.heap.size ≤ k_) ∧ some k_ ≠ (u7 : Value).ownBlock) (.slice (some ⟨go22, 0, none⟩) x6_2.length co24) y291 := (by rw [hw, Ny291.out]; exact HP25.1); clear HP25; replace HO_7 := xA (Kd.R_after (v := (.slice (some ⟨go22, 0, none⟩) x6_2.length co24)) (v1 := (.slice (some ⟨go22, 0, none⟩) x6_2.length co24)) (ok := (fun k_ => (w.heap.size ≤ k_))) (xR HO_7.out) hg (.inl rfl)); replace BK284 := xA (blk_grown (xK BK284.out) hg (Kd.R_ne HO_6.out BK284.out (by decide))); replace HO_6 := xA (hp_); replace HB := xA ((by rw [hw]; exact below_set (HB.out) GB22.out : Below w.heap.size w w26)); clear hg hw hp_; replace hz284 := blk_cell BK284.out; replace hy284 := blk_frozen BK284.out) | (refine xG (some 54) Try.func302 #[.agg #[.int .i64 a0_0, .int .i64 a0_1, .int .i64 a0_2, .int .i64 a0_3, .bool a0_4], .int .i64 x9_2, .int .i64 a1] ?_; (with_reducible refine (spec_foStep.calls k2 a0_0 a0_1 a0_2 a0_3 a0_4 x9_2 a1 t292 _ A23.out).mono ?_); rintro e w28 ⟨rfl, hb⟩; refine ⟨_, rfl, ?_⟩; replace HO_6 := xA (Kd.R_below (xR HO_6.out) hb); replace HO_7 := xA (Kd.R_below (xR HO_7.out) hb); replace BK284 := xkb BK284 hb; replace HB := xA (below_step (xB1 GE284.out HB.out) hb); (try clear hb)))
       go_roundg k2
       case measure => have := HK1.out; have := HK2.out; omega
       case rel => exact ⟨(y291), (t292), xs, H', ⟨by have := HK1.out; have := HK2.out; omega⟩, ⟨xR HO_6.out⟩, ⟨xR HO_7.out⟩, ⟨xK BK284.out⟩, ⟨xB1 GE284.out HB.out⟩⟩
      rw [if_neg c21] at H
      have c21b0 : ((rd x6_2 (ji18)) == 0) = false := beq_eq_false_iff_ne.mpr c21
      have c21b1 : ((rd x6_2 (ji18)) != 0) = true := bne_iff_ne.mpr c21
      by_cases c29 : (rd x6_2 (ji18)) = (wrap64 ((wrap64 (x8_1 - t285)) + 1))
      rotate_left
      ·rw [if_neg c29] at H
       have c29b0 : ((rd x6_2 (ji18)) == (wrap64 ((wrap64 (x8_1 - t285)) + 1))) = false := beq_eq_false_iff_ne.mpr c29
       have c29b1 : ((rd x6_2 (ji18)) != (wrap64 ((wrap64 (x8_1 - t285)) + 1))) = true := bne_iff_ne.mpr c29
       have H' := xA H
       clear H
       obtain ⟨Ao33, co33, eo33⟩ := Kd.R_slice HO_6.out
       subst eo33
       have p290 : 0 ≤ ((ji18) : Int) := of_decide_eq_true (by first | (with_reducible assumption) | assumption | (rw [← hji18]; first | (with_reducible assumption) | assumption))
       have q290 : (ji18) < (x6_2.length : Int) := of_decide_eq_true (by first | (with_reducible assumption) | assumption | (rw [← hji18]; first | (with_reducible assumption) | assumption))
       obtain ⟨ad290, e290, hx290_0⟩ := Kd.at_int (Kd.R_reads' HO_6.out).2.2 (ji18) p290 q290
       cases e290
       replace p290 := eq_true p290
       replace q290 := eq_true q290
       have p293 : 0 ≤ ((ji18) : Int) := of_decide_eq_true (by first | (with_reducible assumption) | assumption | (rw [← hji18]; first | (with_reducible assumption) | assumption))
       have q293 : (ji18) < (x6_2.length : Int) := of_decide_eq_true (by first | (with_reducible assumption) | assumption | (rw [← hji18]; first | (with_reducible assumption) | assumption))
       obtain ⟨ad293, e293, hx293_0⟩ := Kd.at_int (Kd.R_reads' HO_6.out).2.2 (ji18) p293 q293
       obtain rfl : ad290 = ad293 := (by injection e293)
       replace p293 := eq_true p293
       replace q293 := eq_true q293
       go_wp2
       go_roundg k2
       case measure => have := HK1.out; have := HK2.out; omega
       case rel => exact ⟨(x6_2), (x7_1), (wrap64 (x8_1 + 1)), xs, H', ⟨by have := HK1.out; have := HK2.out; omega⟩, ⟨xR HO_6.out⟩, ⟨xR HO_7.out⟩, ⟨xK BK284.out⟩, ⟨xB1 GE284.out HB.out⟩⟩
      rw [if_pos c29] at H
      have c29b0 : ((rd x6_2 (ji18)) == (wrap64 ((wrap64 (x8_1 - t285)) + 1))) = true := beq_iff_eq.mpr c29
      have c29b1 : ((rd x6_2 (ji18)) != (wrap64 ((wrap64 (x8_1 - t285)) + 1))) = false := bne_eq_false_iff_eq.mpr c29
      clear c29
      by_cases c30 : x7_1.length < 17592186044416
      rotate_left
      ·rw [if_neg c30] at H
       exact absurd H (by simp)
      rw [if_pos c30] at H
      have LMc30 := xA c30
      clear c30
      obtain ⟨y294, hy294⟩ : ∃ y_ : List Int, y_ = (x7_1 ++ [x9_2]) := ⟨_, rfl⟩
      replace H : (spec_foCycles.l0 k2 a1 t285 x6_2 y294 (wrap64 (x8_1 + 1)) a0_0 a0_1 a0_2 a0_3 a0_4) = some r := by first | (rw [hy294]; with_reducible exact H) | (have H2_ := (Option.bind_some _ _).symm.trans H; rw [hy294]; with_reducible exact H2_) | (have H2_ := (Option.bind_some _ _).symm.trans H; with_reducible exact H2_) | with_reducible exact H | (rw [hy294]; exact H) | exact H
      have Ny294 := xA hy294
      clear hy294
      have H' := xA H
      clear H
      obtain ⟨Ao31, co31, eo31⟩ := Kd.R_slice HO_6.out
      subst eo31
      have p290 : 0 ≤ ((ji18) : Int) := of_decide_eq_true (by first | (with_reducible assumption) | assumption | (rw [← hji18]; first | (with_reducible assumption) | assumption))
      have q290 : (ji18) < (x6_2.length : Int) := of_decide_eq_true (by first | (with_reducible assumption) | assumption | (rw [← hji18]; first | (with_reducible assumption) | assumption))
      obtain ⟨ad290, e290, hx290_0⟩ := Kd.at_int (Kd.R_reads' HO_6.out).2.2 (ji18) p290 q290
      cases e290
      replace p290 := eq_true p290
      replace q290 := eq_true q290
      have p293 : 0 ≤ ((ji18) : Int) := of_decide_eq_true (by first | (with_reducible assumption) | assumption | (rw [← hji18]; first | (with_reducible assumption) | assumption))
      have q293 : (ji18) < (x6_2.length : Int) := of_decide_eq_true (by first | (with_reducible assumption) | assumption | (rw [← hji18]; first | (with_reducible assumption) | assumption))
      obtain ⟨ad293, e293, hx293_0⟩ := Kd.at_int (Kd.R_reads' HO_6.out).2.2 (ji18) p293 q293
      obtain rfl : ad290 = ad293 := (by injection e293)
      replace p293 := eq_true p293
      replace q293 := eq_true q293
      go_wp2_with (first | ((with_reducible refine gate_builtin (b := .append) (xs := #[.tmp 66, .tmp 68]) rfl ?_); at_builtin; refine Kd.R_append (Kd.int .i64) (w0 := w) w.heap.size rfl (.tmp 66) (.tmp 68) 24 3 (.int .i64 0) 8 rfl Try.underlying24 info3 rfl (by decide) (by omega) u7 x7_1 x9_2 [.int .i64 x9_2] (fun k_ => (w.heap.size ≤ k_) ∧ some k_ ≠ (.slice (some ad290) x6_2.length co31 : Value).ownBlock) (fun _ => False) rfl rfl ?aP (fun _ hk => hk.elim) ?aF ?aO ?aB ?aS ?aL ?_; (case aP => exact rfl); (case aB => exact (xB1 GE284.out HB.out)); (case aF => exact (fun k_ hk => ⟨(Nat.le_trans (below_size (xB1 GE284.out HB.out)) hk), Kd.fresh' (Kd.R_lt (xR HO_6.out)) k_ hk⟩)); (case aO => exact (xR HO_7.out)); (case aS => exact (below_size (xB1 GE284.out HB.out))); (case aL => have := LMc30.out; omega); intro v295 w32 ho hb hg hat; rw [← Ny294.out] at ho; replace HO_6 := xA (Kd.R_after (ok := (fun k_ => (w.heap.size ≤ k_))) (xR HO_6.out) hg hat); replace BK284 := xA (blk_grown (xK BK284.out) hg (Kd.R_ne HO_7.out BK284.out (by decide))); replace HB := xA (hb); have HO296 := xA (ho); clear HO_7; clear ho hb hg hat))
      go_roundg k2
      case measure => have := HK1.out; have := HK2.out; omega
      case rel => exact ⟨(x6_2), (y294), (wrap64 (x8_1 + 1)), xs, H', ⟨by have := HK1.out; have := HK2.out; omega⟩, ⟨xR HO_6.out⟩, ⟨xR HO296.out⟩, ⟨xK BK284.out⟩, ⟨xB1 GE284.out HB.out⟩⟩
   rw [if_neg c15] at H
   have c15b0 : decide (x8_1 ≤ t289) = false := decide_eq_false c15
   clear c15
   have H' := xA H
   clear H
   obtain ⟨hcz34_0, hcz34_1, hcz34_2, hcz34_3, hcz34_4, hfz34_0, hfz34_1, hfz34_2, hfz34_3, hfz34_4⟩ := xZ5 BK284.out
   go_wp2_with (first | (refine xG (some 30) Try.func269 #[.agg #[.int .i64 a0_3, .bool a0_4]] ?_; (with_reducible refine (spec_wdHigh.calls a0_3 a0_4 t289 _ A14.out).mono ?_); rintro e w35 ⟨rfl, hb⟩; refine ⟨_, rfl, ?_⟩; replace HO_6 := xA (Kd.R_below (xR HO_6.out) hb); replace HO_7 := xA (Kd.R_below (xR HO_7.out) hb); replace BK284 := xkb BK284 hb; replace HB := xA (below_step (xB1 GE284.out HB.out) hb); (try clear hb); obtain ⟨Ao36, co36, eo36⟩ := Kd.R_slice HO_7.out; subst eo36))
   go_loopg [10, 72] k1 (fun kq v10 v72 w' => ∃ (x10_2 : List (List Int)) (x72_2 : Int), v72 = .int .i64 x72_2 ∧ Aside0 (spec_foCycles.l2 kq a1 x10_2 x7_1 (x7_1.length : Int) x72_2 a0_0 a0_1 a0_2 a0_3 a0_4 = some r) ∧ Aside0 (kq ≤ k1) ∧ Aside0 (Kd.N (Kd.slice 3 (Kd.int .i64)) 24 w' w.heap.size (fun k_ => (w.heap.size ≤ k_) ∧ some k_ ≠ ((.slice Ao36 x7_1.length co36) : Value).ownBlock ∧ k_ ≠ gb284) v10 x10_2) ∧ Aside0 (Kd.R (Kd.int .i64) 3 w' w.heap.size (fun k_ => (w.heap.size ≤ k_)) (.slice Ao36 x7_1.length co36) x7_1) ∧ Aside0 (w'.heap[gb284]? = some (.cells #[.int .i64 a0_0, .int .i64 a0_1, .int .i64 a0_2, .int .i64 a0_3, .bool a0_4] 62 (0, 0))) ∧ Aside0 (Below w.heap.size w w'))
   case atStart => exact ⟨(([] : List (List Int))), (0), xs, H', ⟨Nat.le_refl _⟩, ⟨by first | exact Kd.S_nil _ _ _ _ _ | exact Kd.N_nil _ _ _ _ _ | exact Kd.V_nil _ _ _ _ _ | exact Kd.Q_nil _ _ _ _ _ | exact Kd.R_nil _ _ _ _ _⟩, ⟨by (with_reducible repeat (first | apply Kd.R_alloc | apply Kd.R_drewN | apply Kd.R_drew)); exact Kd.R_mono HO_7.out (fun _ hk => hk.1)⟩, ⟨xK BK284.out⟩, ⟨xB1 GE284.out HB.out⟩⟩
   case round =>
    clear H'
    try clear c15b0
    try clear hcz34_0
    try clear hcz34_1
    try clear hcz34_2
    try clear hcz34_3
    try clear hcz34_4
    try clear hfz34_0
    try clear hfz34_1
    try clear hfz34_2
    try clear hfz34_3
    try clear hfz34_4
    obtain ⟨x10_2, x72_2, rfl, HA, HK2, HO_10, HO_70, BK284, HB⟩ := hrel
    cases gk with
    | zero => exact absurd HA.out (by simp [spec_foCycles.l2])
    | succ k2 =>
     have H := HA.out
     clear HA
     simp only [spec_foCycles.l2] at H
     by_cases c37 : x72_2 < (x7_1.length : Int)
     rotate_left
     ·rw [if_neg c37] at H
      have c37b0 : decide (x72_2 < (x7_1.length : Int)) = false := decide_eq_false c37
      clear c37
      obtain rfl := Option.some.inj H
      go_wp2
      go_ret
      exact ⟨_, by first | rfl | (simp [errW_none, errW_some] <;> rfl) | (simp only [← hji5]; first | rfl | (simp [errW_none, errW_some] <;> rfl)) | (simp [*, errW_none, errW_some] <;> rfl), by (with_reducible repeat (first | apply Kd.N_alloc | apply Kd.N_drewN | apply Kd.N_drew)); exact Kd.N_mono HO_10.out (fun _ hk => hk.1), xB1 GE284.out HB.out⟩
     rw [if_pos c37] at H
     have c37b0 : decide (x72_2 < (x7_1.length : Int)) = true := decide_eq_true c37
     clear c37
     by_cases c38 : 0 ≤ x72_2
     rotate_left
     ·rw [if_neg c38] at H
      exact absurd H (by simp)
     rw [if_pos c38] at H
     have c38b0 : decide (0 ≤ x72_2) = true := decide_eq_true c38
     clear c38
     by_cases c39 : x72_2 < (x7_1.length : Int)
     rotate_left
     ·rw [if_neg c39] at H
      exact absurd H (by simp)
     rw [if_pos c39] at H
     have c39b0 : decide (x72_2 < (x7_1.length : Int)) = true := decide_eq_true c39
     clear c39
     obtain ⟨y298, hy298⟩ : ∃ y_ : List Int, y_ = (([rd x7_1 x72_2] : List Int)) := ⟨_, rfl⟩
     replace H : ((spec_foStep.f k2 a0_0 a0_1 a0_2 a0_3 a0_4 (rd x7_1 x72_2) a1).bind fun t301 => (spec_foCycles.l3 k2 a1 x10_2 (rd x7_1 x72_2) y298 0 t301 x7_1 (x7_1.length : Int) x72_2 a0_0 a0_1 a0_2 a0_3 a0_4)) = some r := by first | (rw [hy298]; with_reducible exact H) | (have H2_ := (Option.bind_some _ _).symm.trans H; rw [hy298]; with_reducible exact H2_) | (have H2_ := (Option.bind_some _ _).symm.trans H; with_reducible exact H2_) | with_reducible exact H | (rw [hy298]; exact H) | exact H
     have Ny298 := xA hy298
     clear hy298
     obtain ⟨t301, A40, H⟩ := xO H
     (try dsimp only at H)
     have H' := xA H
     clear H
     have p297 : 0 ≤ (x72_2 : Int) := of_decide_eq_true (by first | (with_reducible assumption) | assumption)
     have q297 : x72_2 < (x7_1.length : Int) := of_decide_eq_true (by first | (with_reducible assumption) | assumption)
     obtain ⟨ad297, e297, hx297_0⟩ := Kd.at_int (Kd.R_reads' HO_70.out).2.2 x72_2 p297 q297
     cases e297
     replace p297 := eq_true p297
     replace q297 := eq_true q297
     go_wp2_with (first | ((with_reducible refine gate_dst (N := 77) rfl ?_); refine Kd.R_lit (Kd.int .i64) _ 3 ?hg (N := 77) ?hd (xs := ([rd x7_1 x72_2] : List Int)) (inner := [.int .i64 (rd x7_1 x72_2)]) (ok := fun _ => True) (okp := fun _ => True) ?hr ?hp (fun _ hk => hk) trivial (Below.refl _ _) (Nat.le_refl _) (by simp) ?_; (case hd => rfl); (case hg => rfl); (case hr => first | (go_simp; done) | (go_simp; rfl)); (case hp => exact (Reps.one (show Kd.M (Kd.int .i64) _ _ _ (rd x7_1 x72_2) [.int .i64 (rd x7_1 x72_2)] from rfl) (Reps.none _ _))); intro v299 w41 ho42 hb hg_ hnew_; clear hg_ hnew_; (first | rw [← Ny298.out] at ho42 | (simp only [Int.reduceToNat] at ho42; rw [← Ny298.out] at ho42)); replace HO_10 := xA (Kd.N_elder' (by (with_reducible repeat (first | apply Kd.N_alloc | apply Kd.N_drewN | apply Kd.N_drew)); exact HO_10.out) (Kd.R_base ho42) hb); have HO300 := xA (Kd.R_lower (Kd.R_new' (Kd.R_newM (M := fun k_ => (w.heap.size ≤ k_)) ho42 (below_size (xB1 GE284.out HB.out)) (fun k_ h_ => h_)) (Kd.R_lt (xR HO_70.out))) (below_size (xB1 GE284.out HB.out))); replace HO_70 := xA (Kd.R_elder' (xR HO_70.out) (Kd.R_base ho42) hb); replace BK284 := xkb BK284 hb; replace HB := xA (below_step (xB1 GE284.out HB.out) hb); clear hb ho42; obtain ⟨hcz43_0, hcz43_1, hcz43_2, hcz43_3, hcz43_4, hfz43_0, hfz43_1, hfz43_2, hfz43_3, hfz43_4⟩ := xZ5 BK284.out) | (refine xG (some 81) Try.func302 #[.agg #[.int .i64 a0_0, .int .i64 a0_1, .int .i64 a0_2, .int .i64 a0_3, .bool a0_4], .int .i64 (rd x7_1 x72_2), .int .i64 a1] ?_; (with_reducible refine (spec_foStep.calls k2 a0_0 a0_1 a0_2 a0_3 a0_4 (rd x7_1 x72_2) a1 t301 _ A40.out).mono ?_); rintro e w44 ⟨rfl, hb⟩; refine ⟨_, rfl, ?_⟩; replace HO_10 := xA (Kd.N_below (by (with_reducible repeat (first | apply Kd.N_alloc | apply Kd.N_drewN | apply Kd.N_drew)); exact HO_10.out) hb); replace HO_70 := xA (Kd.R_below (xR HO_70.out) hb); replace HO300 := xA (Kd.R_below (xR HO300.out) hb); replace BK284 := xkb BK284 hb; replace HB := xA (below_step (xB1 GE284.out HB.out) hb); (try clear hb)))
     go_loopg [13, 14, 15] k2 (fun kq v13 v14 v15 w' => ∃ (x13_3 : List Int) (x14_3 : Int) (x15_3 : Int), v14 = .int .i64 x14_3 ∧ v15 = .int .i64 x15_3 ∧ Aside0 (spec_foCycles.l3 kq a1 x10_2 (rd x7_1 x72_2) x13_3 x14_3 x15_3 x7_1 (x7_1.length : Int) x72_2 a0_0 a0_1 a0_2 a0_3 a0_4 = some r) ∧ Aside0 (kq ≤ k2) ∧ Aside0 (Kd.N (Kd.slice 3 (Kd.int .i64)) 24 w' w.heap.size (fun k_ => (w.heap.size ≤ k_) ∧ some k_ ≠ (v13 : Value).ownBlock ∧ some k_ ≠ ((.slice (some ad297) x7_1.length co36) : Value).ownBlock ∧ k_ ≠ gb284) u10 x10_2) ∧ Aside0 (Kd.R (Kd.int .i64) 3 w' w.heap.size (fun k_ => (w.heap.size ≤ k_) ∧ some k_ ≠ ((.slice (some ad297) x7_1.length co36) : Value).ownBlock) v13 x13_3) ∧ Aside0 (Kd.R (Kd.int .i64) 3 w' w.heap.size (fun k_ => (w.heap.size ≤ k_) ∧ some k_ ≠ (v13 : Value).ownBlock) (.slice (some ad297) x7_1.length co36) x7_1) ∧ Aside0 (w'.heap[gb284]? = some (.cells #[.int .i64 a0_0, .int .i64 a0_1, .int .i64 a0_2, .int .i64 a0_3, .bool a0_4] 62 (0, 0))) ∧ Aside0 (Below w.heap.size w w'))
     case atStart => exact ⟨(y298), (0), (t301), xs, xs, H', ⟨Nat.le_refl _⟩, ⟨by (with_reducible repeat (first | apply Kd.N_alloc | apply Kd.N_drewN | apply Kd.N_drew)); exact Kd.N_mono HO_10.out (fun _ hk => ⟨hk.1.1, ⟨hk.2, ⟨hk.1.2.1, hk.1.2.2⟩⟩⟩)⟩, ⟨by (with_reducible repeat (first | apply Kd.R_alloc | apply Kd.R_drewN | apply Kd.R_drew)); exact Kd.R_mono HO300.out (fun _ hk => ⟨hk.1.1, hk.2⟩)⟩, ⟨xR HO_70.out⟩, ⟨xK BK284.out⟩, ⟨xB1 GE284.out HB.out⟩⟩
     case round =>
      clear H'
      try clear c37b0
      try clear c38b0
      try clear c39b0
      try clear hcz43_0
      try clear hcz43_1
      try clear hcz43_2
      try clear hcz43_3
      try clear hcz43_4
      try clear hfz43_0
      try clear hfz43_1
      try clear hfz43_2
      try clear hfz43_3
      try clear hfz43_4
      try clear hx297_0
      try clear p297
      try clear q297
      obtain ⟨x13_3, x14_3, x15_3, rfl, rfl, HA, HK3, HO_10, HO_13, HO_70, BK284, HB⟩ := hrel
      cases gk with
      | zero => exact absurd HA.out (by simp [spec_foCycles.l3])
      | succ k3 =>
       have H := HA.out
       clear HA
       simp only [spec_foCycles.l3] at H
       by_cases c45 : x15_3 = (rd x7_1 x72_2)
       rotate_left
       ·rw [if_neg c45] at H
        have c45b0 : (x15_3 == (rd x7_1 x72_2)) = false := beq_eq_false_iff_ne.mpr c45
        have c45b1 : (x15_3 != (rd x7_1 x72_2)) = true := bne_iff_ne.mpr c45
        by_cases c102 : 0 ≤ x14_3
        rotate_left
        ·rw [if_neg c102] at H
         exact absurd H (by simp)
        rw [if_pos c102] at H
        have c102b0 : decide (0 ≤ x14_3) = true := decide_eq_true c102
        clear c102
        by_cases c103 : x14_3 < (x13_3.length : Int)
        rotate_left
        ·rw [if_neg c103] at H
         exact absurd H (by simp)
        rw [if_pos c103] at H
        have c103b0 : decide (x14_3 < (x13_3.length : Int)) = true := decide_eq_true c103
        clear c103
        by_cases c104 : x15_3 < (rd x13_3 x14_3)
        rotate_left
        ·rw [if_neg c104] at H
         have c104b0 : decide (x15_3 < (rd x13_3 x14_3)) = false := decide_eq_false c104
         clear c104
         by_cases c111 : x13_3.length < 17592186044416
         rotate_left
         ·rw [if_neg c111] at H
          exact absurd H (by simp)
         rw [if_pos c111] at H
         have LMc111 := xA c111
         clear c111
         obtain ⟨y307, hy307⟩ : ∃ y_ : List Int, y_ = (x13_3 ++ [x15_3]) := ⟨_, rfl⟩
         replace H : ((spec_foStep.f k3 a0_0 a0_1 a0_2 a0_3 a0_4 x15_3 a1).bind fun t310 => (spec_foCycles.l3 k3 a1 x10_2 (rd x7_1 x72_2) y307 x14_3 t310 x7_1 (x7_1.length : Int) x72_2 a0_0 a0_1 a0_2 a0_3 a0_4)) = some r := by first | (rw [hy307]; with_reducible exact H) | (have H2_ := (Option.bind_some _ _).symm.trans H; rw [hy307]; with_reducible exact H2_) | (have H2_ := (Option.bind_some _ _).symm.trans H; with_reducible exact H2_) | with_reducible exact H | (rw [hy307]; exact H) | exact H
         have Ny307 := xA hy307
         clear hy307
         obtain ⟨t310, A112, H⟩ := xO H
         (try dsimp only at H)
         have H' := xA H
         clear H
         obtain ⟨Ao113, co113, eo113⟩ := Kd.R_slice HO_13.out
         subst eo113
         have p302 : 0 ≤ (x14_3 : Int) := of_decide_eq_true (by first | (with_reducible assumption) | assumption)
         have q302 : x14_3 < (x13_3.length : Int) := of_decide_eq_true (by first | (with_reducible assumption) | assumption)
         obtain ⟨ad302, e302, hx302_0⟩ := Kd.at_int (Kd.R_reads' HO_13.out).2.2 x14_3 p302 q302
         cases e302
         replace p302 := eq_true p302
         replace q302 := eq_true q302
         go_wp2_with (first | ((with_reducible refine gate_builtin (b := .append) (xs := #[.tmp 97, .tmp 99]) rfl ?_); at_builtin; refine Kd.R_append (Kd.int .i64) (w0 := w) w.heap.size rfl (.tmp 97) (.tmp 99) 24 3 (.int .i64 0) 8 rfl Try.underlying24 info3 rfl (by decide) (by omega) (.slice (some ad302) x13_3.length co113) x13_3 x15_3 [.int .i64 x15_3] (fun k_ => (w.heap.size ≤ k_) ∧ some k_ ≠ (.slice (some ad297) x7_1.length co36 : Value).ownBlock) (fun _ => False) rfl rfl ?aP (fun _ hk => hk.elim) ?aF ?aO ?aB ?aS ?aL ?_; (case aP => exact rfl); (case aB => exact (xB1 GE284.out HB.out)); (case aF => exact (fun k_ hk => ⟨(Nat.le_trans (below_size (xB1 GE284.out HB.out)) hk), Kd.fresh' (Kd.R_lt (xR HO_70.out)) k_ hk⟩)); (case aO => exact (xR HO_13.out)); (case aS => exact (below_size (xB1 GE284.out HB.out))); (case aL => have := LMc111.out; omega); intro v308 w114 ho hb hg hat; rw [← Ny307.out] at ho; replace HO_10 := xA (Kd.N_afterv (ok := (fun k_ => (w.heap.size ≤ k_) ∧ some k_ ≠ (.slice (some ad297) x7_1.length co36 : Value).ownBlock ∧ k_ ≠ gb284)) (by (with_reducible repeat (first | apply Kd.N_alloc | apply Kd.N_drewN | apply Kd.N_drew)); exact Kd.N_mono HO_10.out (fun _ hk => ⟨⟨hk.1, ⟨hk.2.2.1, hk.2.2.2⟩⟩, hk.2.1⟩)) hg hat); replace HO_70 := xA (Kd.R_after (ok := (fun k_ => (w.heap.size ≤ k_))) (xR HO_70.out) hg hat); replace BK284 := xA (blk_grown (xK BK284.out) hg (Kd.R_ne HO_13.out BK284.out (by decide))); replace HB := xA (hb); have HO309 := xA (ho); clear HO_13; clear ho hb hg hat; replace hz284 := blk_cell BK284.out; replace hy284 := blk_frozen BK284.out) | (refine xG (some 88) Try.func302 #[.agg #[.int .i64 a0_0, .int .i64 a0_1, .int .i64 a0_2, .int .i64 a0_3, .bool a0_4], .int .i64 x15_3, .int .i64 a1] ?_; (with_reducible refine (spec_foStep.calls k3 a0_0 a0_1 a0_2 a0_3 a0_4 x15_3 a1 t310 _ A112.out).mono ?_); rintro e w116 ⟨rfl, hb⟩; refine ⟨_, rfl, ?_⟩; replace HO_10 := xA (Kd.N_below (by (with_reducible repeat (first | apply Kd.N_alloc | apply Kd.N_drewN | apply Kd.N_drew)); exact HO_10.out) hb); replace HO_70 := xA (Kd.R_below (xR HO_70.out) hb); replace HO309 := xA (Kd.R_below (xR HO309.out) hb); replace BK284 := xkb BK284 hb; replace HB := xA (below_step (xB1 GE284.out HB.out) hb); (try clear hb)))
         go_roundg k3
         case measure => have := HK1.out; have := HK2.out; have := HK3.out; omega
         case rel => exact ⟨(y307), (x14_3), (t310), xs, xs, H', ⟨by have := HK1.out; have := HK2.out; have := HK3.out; omega⟩, ⟨by (with_reducible repeat (first | apply Kd.N_alloc | apply Kd.N_drewN | apply Kd.N_drew)); exact Kd.N_mono HO_10.out (fun _ hk => ⟨hk.1.1, ⟨hk.2, ⟨hk.1.2.1, hk.1.2.2⟩⟩⟩)⟩, ⟨xR HO309.out⟩, ⟨xR HO_70.out⟩, ⟨xK BK284.out⟩, ⟨xB1 GE284.out HB.out⟩⟩
        rw [if_pos c104] at H
        have c104b0 : decide (x15_3 < (rd x13_3 x14_3)) = true := decide_eq_true c104
        clear c104
        by_cases c105 : x13_3.length < 17592186044416
        rotate_left
        ·rw [if_neg c105] at H
         exact absurd H (by simp)
        rw [if_pos c105] at H
        have LMc105 := xA c105
        clear c105
        obtain ⟨y303, hy303⟩ : ∃ y_ : List Int, y_ = (x13_3 ++ [x15_3]) := ⟨_, rfl⟩
        replace H : ((spec_foStep.f k3 a0_0 a0_1 a0_2 a0_3 a0_4 x15_3 a1).bind fun t306 => (spec_foCycles.l3 k3 a1 x10_2 (rd x7_1 x72_2) y303 (x13_3.length : Int) t306 x7_1 (x7_1.length : Int) x72_2 a0_0 a0_1 a0_2 a0_3 a0_4)) = some r := by first | (rw [hy303]; with_reducible exact H) | (have H2_ := (Option.bind_some _ _).symm.trans H; rw [hy303]; with_reducible exact H2_) | (have H2_ := (Option.bind_some _ _).symm.trans H; with_reducible exact H2_) | with_reducible exact H | (rw [hy303]; exact H) | exact H
        have Ny303 := xA hy303
        clear hy303
        obtain ⟨t306, A106, H⟩ := xO H
        (try dsimp only at H)
        have H' := xA H
        clear H
        obtain ⟨Ao107, co107, eo107⟩ := Kd.R_slice HO_13.out
        subst eo107
        have p302 : 0 ≤ (x14_3 : Int) := of_decide_eq_true (by first | (with_reducible assumption) | assumption)
        have q302 : x14_3 < (x13_3.length : Int) := of_decide_eq_true (by first | (with_reducible assumption) | assumption)
        obtain ⟨ad302, e302, hx302_0⟩ := Kd.at_int (Kd.R_reads' HO_13.out).2.2 x14_3 p302 q302
        cases e302
        replace p302 := eq_true p302
        replace q302 := eq_true q302
        go_wp2_with (first | ((with_reducible refine gate_builtin (b := .append) (xs := #[.tmp 97, .tmp 99]) rfl ?_); at_builtin; refine Kd.R_append (Kd.int .i64) (w0 := w) w.heap.size rfl (.tmp 97) (.tmp 99) 24 3 (.int .i64 0) 8 rfl Try.underlying24 info3 rfl (by decide) (by omega) (.slice (some ad302) x13_3.length co107) x13_3 x15_3 [.int .i64 x15_3] (fun k_ => (w.heap.size ≤ k_) ∧ some k_ ≠ (.slice (some ad297) x7_1.length co36 : Value).ownBlock) (fun _ => False) rfl rfl ?aP (fun _ hk => hk.elim) ?aF ?aO ?aB ?aS ?aL ?_; (case aP => exact rfl); (case aB => exact (xB1 GE284.out HB.out)); (case aF => exact (fun k_ hk => ⟨(Nat.le_trans (below_size (xB1 GE284.out HB.out)) hk), Kd.fresh' (Kd.R_lt (xR HO_70.out)) k_ hk⟩)); (case aO => exact (xR HO_13.out)); (case aS => exact (below_size (xB1 GE284.out HB.out))); (case aL => have := LMc105.out; omega); intro v304 w108 ho hb hg hat; rw [← Ny303.out] at ho; replace HO_10 := xA (Kd.N_afterv (ok := (fun k_ => (w.heap.size ≤ k_) ∧ some k_ ≠ (.slice (some ad297) x7_1.length co36 : Value).ownBlock ∧ k_ ≠ gb284)) (by (with_reducible repeat (first | apply Kd.N_alloc | apply Kd.N_drewN | apply Kd.N_drew)); exact Kd.N_mono HO_10.out (fun _ hk => ⟨⟨hk.1, ⟨hk.2.2.1, hk.2.2.2⟩⟩, hk.2.1⟩)) hg hat); replace HO_70 := xA (Kd.R_after (ok := (fun k_ => (w.heap.size ≤ k_))) (xR HO_70.out) hg hat); replace BK284 := xA (blk_grown (xK BK284.out) hg (Kd.R_ne HO_13.out BK284.out (by decide))); replace HB := xA (hb); have HO305 := xA (ho); clear HO_13; clear ho hb hg hat; replace hz284 := blk_cell BK284.out; replace hy284 := blk_frozen BK284.out) | (refine xG (some 88) Try.func302 #[.agg #[.int .i64 a0_0, .int .i64 a0_1, .int .i64 a0_2, .int .i64 a0_3, .bool a0_4], .int .i64 x15_3, .int .i64 a1] ?_; (with_reducible refine (spec_foStep.calls k3 a0_0 a0_1 a0_2 a0_3 a0_4 x15_3 a1 t306 _ A106.out).mono ?_); rintro e w110 ⟨rfl, hb⟩; refine ⟨_, rfl, ?_⟩; replace HO_10 := xA (Kd.N_below (by (with_reducible repeat (first | apply Kd.N_alloc | apply Kd.N_drewN | apply Kd.N_drew)); exact HO_10.out) hb); replace HO_70 := xA (Kd.R_below (xR HO_70.out) hb); replace HO305 := xA (Kd.R_below (xR HO305.out) hb); replace BK284 := xkb BK284 hb; replace HB := xA (below_step (xB1 GE284.out HB.out) hb); (try clear hb)))
        go_roundg k3
        case measure => have := HK1.out; have := HK2.out; have := HK3.out; omega
        case rel => exact ⟨(y303), ((x13_3.length : Int)), (t306), xs, xs, H', ⟨by have := HK1.out; have := HK2.out; have := HK3.out; omega⟩, ⟨by (with_reducible repeat (first | apply Kd.N_alloc | apply Kd.N_drewN | apply Kd.N_drew)); exact Kd.N_mono HO_10.out (fun _ hk => ⟨hk.1.1, ⟨hk.2, ⟨hk.1.2.1, hk.1.2.2⟩⟩⟩)⟩, ⟨xR HO305.out⟩, ⟨xR HO_70.out⟩, ⟨xK BK284.out⟩, ⟨xB1 GE284.out HB.out⟩⟩
       rw [if_pos c45] at H
       have c45b0 : (x15_3 == (rd x7_1 x72_2)) = true := beq_iff_eq.mpr c45
       have c45b1 : (x15_3 != (rd x7_1 x72_2)) = false := bne_eq_false_iff_eq.mpr c45
       clear c45
       obtain ⟨y311, hy311⟩ : ∃ y_ : List Int, y_ = (([] : List Int)) := ⟨_, rfl⟩
       replace H : (if 0 ≤ x14_3 then (if x14_3 ≤ (x13_3.length : Int) then ((some (x13_3.drop (x14_3 : Int).toNat : List Int)).bind fun y314 => (if y311.length + y314.length < 17592186044416 then ((some (y311 ++ y314 : List Int)).bind fun y319 => ((some (x13_3.take (x14_3 : Int).toNat : List Int)).bind fun y322 => (if y319.length + y322.length < 17592186044416 then (spec_foCycles.l4 k3 a1 x10_2 (y319 ++ y322) (x10_2.length : Int) x7_1 (x7_1.length : Int) x72_2 a0_0 a0_1 a0_2 a0_3 a0_4) else (none)))) else (none))) else (none)) else (none)) = some r := by first | (rw [hy311]; with_reducible exact H) | (have H2_ := (Option.bind_some _ _).symm.trans H; rw [hy311]; with_reducible exact H2_) | (have H2_ := (Option.bind_some _ _).symm.trans H; with_reducible exact H2_) | with_reducible exact H | (rw [hy311]; exact H) | exact H
       have Ny311 := xA hy311
       clear hy311
       by_cases c46 : 0 ≤ x14_3
       rotate_left
       ·rw [if_neg c46] at H
        exact absurd H (by simp)
       rw [if_pos c46] at H
       have c46b0 := eq_true c46
       have c46b1 : decide (0 ≤ x14_3) = true := decide_eq_true c46
       clear c46
       by_cases c47 : x14_3 ≤ (x13_3.length : Int)
       rotate_left
       ·rw [if_neg c47] at H
        exact absurd H (by simp)
       rw [if_pos c47] at H
       have c47b0 := eq_true c47
       have c47b1 : decide (x14_3 ≤ (x13_3.length : Int)) = true := decide_eq_true c47
       clear c47
       obtain ⟨y314, hy314⟩ : ∃ y_ : List Int, y_ = (x13_3.drop (x14_3 : Int).toNat) := ⟨_, rfl⟩
       replace H : (if y311.length + y314.length < 17592186044416 then ((some (y311 ++ y314 : List Int)).bind fun y319 => ((some (x13_3.take (x14_3 : Int).toNat : List Int)).bind fun y322 => (if y319.length + y322.length < 17592186044416 then (spec_foCycles.l4 k3 a1 x10_2 (y319 ++ y322) (x10_2.length : Int) x7_1 (x7_1.length : Int) x72_2 a0_0 a0_1 a0_2 a0_3 a0_4) else (none)))) else (none)) = some r := by first | (rw [hy314]; with_reducible exact H) | (have H2_ := (Option.bind_some _ _).symm.trans H; rw [hy314]; with_reducible exact H2_) | (have H2_ := (Option.bind_some _ _).symm.trans H; with_reducible exact H2_) | with_reducible exact H | (rw [hy314]; exact H) | exact H
       have Ny314 := xA hy314
       clear hy314
       by_cases c48 : y311.length + y314.length < 17592186044416
       rotate_left
       ·rw [if_neg c48] at H
        exact absurd H (by simp)
       rw [if_pos c48] at H
       have LMc48 := xA c48
       clear c48
       obtain ⟨y319, hy319⟩ : ∃ y_ : List Int, y_ = (y311 ++ y314) := ⟨_, rfl⟩
       replace H : ((some (x13_3.take (x14_3 : Int).toNat : List Int)).bind fun y322 => (if y319.length + y322.length < 17592186044416 then (spec_foCycles.l4 k3 a1 x10_2 (y319 ++ y322) (x10_2.length : Int) x7_1 (x7_1.length : Int) x72_2 a0_0 a0_1 a0_2 a0_3 a0_4) else (none))) = some r := by first | (rw [hy319]; with_reducible exact H) | (have H2_ := (Option.bind_some _ _).symm.trans H; rw [hy319]; with_reducible exact H2_) | (have H2_ := (Option.bind_some _ _).symm.trans H; with_reducible exact H2_) | with_reducible exact H | (rw [hy319]; exact H) | exact H
       have Ny319 := xA hy319
       clear hy319
       have c49b0 := eq_true (of_decide_eq_true (by first | (with_reducible assumption) | assumption) : 0 ≤ x14_3)
       have c50b0 := eq_true (of_decide_eq_true (by first | (with_reducible assumption) | assumption) : x14_3 ≤ (x13_3.length : Int))
       obtain ⟨y322, hy322⟩ : ∃ y_ : List Int, y_ = (x13_3.take (x14_3 : Int).toNat) := ⟨_, rfl⟩
       replace H : (if y319.length + y322.length < 17592186044416 then (spec_foCycles.l4 k3 a1 x10_2 (y319 ++ y322) (x10_2.length : Int) x7_1 (x7_1.length : Int) x72_2 a0_0 a0_1 a0_2 a0_3 a0_4) else (none)) = some r := by first | (rw [hy322]; with_reducible exact H) | (have H2_ := (Option.bind_some _ _).symm.trans H; rw [hy322]; with_reducible exact H2_) | (have H2_ := (Option.bind_some _ _).symm.trans H; with_reducible exact H2_) | with_reducible exact H | (rw [hy322]; exact H) | exact H
       have Ny322 := xA hy322
       clear hy322
       by_cases c51 : y319.length + y322.length < 17592186044416
       rotate_left
       ·rw [if_neg c51] at H
        exact absurd H (by simp)
       rw [if_pos c51] at H
       have LMc51 := xA c51
       clear c51
       obtain ⟨y327, hy327⟩ : ∃ y_ : List Int, y_ = (y319 ++ y322) := ⟨_, rfl⟩
       replace H : (spec_foCycles.l4 k3 a1 x10_2 y327 (x10_2.length : Int) x7_1 (x7_1.length : Int) x72_2 a0_0 a0_1 a0_2 a0_3 a0_4) = some r := by first | (rw [hy327]; with_reducible exact H) | (have H2_ := (Option.bind_some _ _).symm.trans H; rw [hy327]; with_reducible exact H2_) | (have H2_ := (Option.bind_some _ _).symm.trans H; with_reducible exact H2_) | with_reducible exact H | (rw [hy327]; exact H) | exact H
       have Ny327 := xA hy327
       clear hy327
       have H' := xA H
       clear H
       try go_wp2
       replace HO_10 := xA (Kd.N_drew HO_10.out)
       replace HO_13 := xA (Kd.R_drew HO_13.out)
       replace HO_70 := xA (Kd.R_drew HO_70.out)
       replace BK284 := xA (blk_drew BK284.out)
       replace HB := xA (below_drew1 HB.out)
       obtain ⟨Ao54, co54, eo54⟩ := Kd.R_slice HO_13.out
       (first | subst eo54 | (injection eo54 with f1_ f2_ f3_; have f4_ := f1_.symm; have f5_ := f3_.symm; clear f1_ f2_ f3_; subst f4_; subst f5_))
       have q53 : (x14_3 : Int) ≤ ((x13_3.length : Int) : Int) := of_decide_eq_true (by first | (with_reducible assumption) | assumption)
       obtain ⟨i053, hi053, _, hsz53, _⟩ := info_parts info3
       have hroom53 : x13_3.length ≤ co54 := (Kd.R_reads' HO_13.out).2.1
       have hC53 : Kd.F (Kd.int .i64) _ _ Ao54 x13_3.length x13_3 := (Kd.V_at (base := w.heap.size) (Kd.R_V (Kd.R_types (Kd.R_apart' (HO_13.out) (Kd.N_typed HO_10.out) (by decide)) BK284.out (by decide)))).2.2
       have q053 : (0 : Int) ≤ (x14_3 : Int) := of_decide_eq_true (by first | (with_reducible assumption) | assumption)
       have hcut53 := cut_from (P := Try.prog) 24 3 .i64 Try.underlying24 hi053 1 hsz53 Ao54 x13_3.length co54 x14_3 q053 q53
       have hr53 := Kd.F_cut (m := (x14_3 : Int).toNat) (c := co54) hC53 (by omega) hroom53
       obtain ⟨A53, hA53⟩ : ∃ A1, A1 = (if co54 = (x14_3 : Int).toNat then Ao54 else (Ao54 : Option Addr).map (·.add ((x14_3 : Int).toNat * 1))) := ⟨_, rfl⟩
       obtain ⟨c53, hc53⟩ : ∃ c1, c1 = co54 - (x14_3 : Int).toNat := ⟨_, rfl⟩
       have hy53 : y314.length = x13_3.length - (x14_3 : Int).toNat := (by rw [Ny314.out, List.length_drop] <;> omega)
       rw [show (x13_3).drop (x14_3 : Int).toNat = y314 from Ny314.out.symm] at hr53
       replace hr53 : Kd.F (Kd.int .i64) _ _ A53 y314.length y314 := (by rw [hA53]; exact hr53)
       rw [← hy53, ← hA53, ← hc53] at hcut53
       have HO318 := xA (show Kd.V (Kd.int .i64) 3 _ w.heap.size _ (.slice A53 y314.length c53) y314 from Kd.V_mk (by rw [hy53, hc53]; exact Nat.sub_le_sub_right hroom53 _) hr53)
       have HC318 := xA (show y314.length ≤ c53 from by rw [hy53, hc53]; exact Nat.sub_le_sub_right hroom53 _)
       clear hr53 hC53 hroom53 hi053 hsz53 hc53
       have KY53 := xA hy53
       have KA53 := xA hA53
       clear hy53 hA53
       replace q53 := eq_true q53
       have q55 : (x14_3 : Int) ≤ ((x13_3.length : Int) : Int) := of_decide_eq_true (by first | (with_reducible assumption) | assumption)
       obtain ⟨i055, hi055, _, hsz55, _⟩ := info_parts info3
       have hroom55 : x13_3.length ≤ co54 := (Kd.R_reads' HO_13.out).2.1
       have hC55 : Kd.F (Kd.int .i64) _ _ Ao54 x13_3.length x13_3 := (Kd.V_at (base := w.heap.size) (Kd.R_V (Kd.R_types (Kd.R_apart' (HO_13.out) (Kd.N_typed HO_10.out) (by decide)) BK284.out (by decide)))).2.2
       have hcut55 := cut_to (P := Try.prog) 24 3 .i64 Try.underlying24 hi055 Ao54 x13_3.length co54 x14_3 (of_decide_eq_true (by first | (with_reducible assumption) | assumption)) q55 hroom55
       have hr55 := Kd.F_take (m := (x14_3 : Int).toNat) hC55 (by omega)
       have hy55 : y322.length = (x14_3 : Int).toNat := (by rw [Ny322.out, List.length_take]; omega)
       rw [← Ny322.out] at hr55
       rw [← hy55] at hcut55
       have HO326 := xA (show Kd.V (Kd.int .i64) 3 _ w.heap.size _ (.slice Ao54 y322.length co54) y322 from Kd.V_mk (by omega) hr55)
       have HC326 := xA (show y322.length ≤ co54 from by omega)
       clear hr55 hC55 hroom55 hi055 hsz55
       have KY55 := xA hy55
       clear hy55
       replace q55 := eq_true q55
       refine start_ (n := 10) (S := fun w' => True) (ds := []) x7a0 (by kernel_rfl) rfl rfl trivial (fun hHeld => ?_); refine with_tabW spec_foCycles.tab25 spec_foCycles.bits25 (fun HT_ HW_ => ?_)
       generalize wr.drew = w52 at HO_10 HO_13 HO_70 BK284 HB HO318 HO326 hHeld ⊢
       refine xP 1 102 x7a1 ?_
       refine xP 2 103 x7a2 ?_
       refine xP 3 104 x7a3 ?_
       refine xP 5 106 x7a4 ?_
       refine xP 6 107 x7a5 ?_
       refine xP 7 108 x7a6 ?_
       refine xU 0 101 x7a7 (fun K hK => ?_)
       refine Kd.R_lit_step (Kd.int .i64) _ 3 ?hg (N := 101) ?hd (xs := ([] : List Int)) (inner := []) (ok := fun _ => True) (okp := fun _ => True) ?hr ?hp (fun _ hk => hk) trivial (Below.refl _ _) (Nat.le_refl _) (by simp) ?_; (case hd => rfl); (case hg => rfl); (case hr => first | (go_simp; done) | (go_simp; rfl)); (case hp => exact (Reps.none _ _))
       intro v312 w56 ho57 hb hg_ hnew_
       clear hg_ hnew_
       (first | rw [← Ny311.out] at ho57 | (simp only [Int.reduceToNat] at ho57; rw [← Ny311.out] at ho57))
       replace HO_10 := xA (Kd.N_elder' (by (with_reducible repeat (first | apply Kd.N_alloc | apply Kd.N_drewN | apply Kd.N_drew)); exact HO_10.out) (Kd.R_base ho57) hb)
       replace HO318 := xA (Kd.V_elder' (by (with_reducible repeat (first | apply Kd.V_alloc | apply Kd.V_drewN | apply Kd.V_drew)); exact HO318.out) (Kd.R_base ho57) hb)
       replace HO326 := xA (Kd.V_elder' (by (with_reducible repeat (first | apply Kd.V_alloc | apply Kd.V_drewN | apply Kd.V_drew)); exact HO326.out) (Kd.R_base ho57) hb)
       have HO313 := xA (Kd.R_lower (Kd.R_new' (Kd.R_new' (Kd.R_newM (M := fun k_ => (w.heap.size ≤ k_)) ho57 (below_size (xB1 GE284.out HB.out)) (fun k_ h_ => h_)) (Kd.R_lt (xR HO_13.out))) (Kd.R_lt (xR HO_70.out))) (below_size (xB1 GE284.out HB.out)))
       replace HO_13 := xA (Kd.R_elder' (xR HO_13.out) (Kd.R_base ho57) hb)
       replace HO_70 := xA (Kd.R_elder' (xR HO_70.out) (Kd.R_base ho57) hb)
       replace BK284 := xkb BK284 hb
       replace HB := xA (below_step (xB1 GE284.out HB.out) hb)
       clear hb ho57
       refine hK.out _ _ trivial (fun hHeld => ?_)
       clear hK K
       refine xN ?_
       refine xU 4 105 x7a8 (fun K hK => ?_)
       refine Kd.R_append_rows_step (Kd.int .i64) (w0 := w) w.heap.size (by rfl) (.tmp 101) (.tmp 104) 24 3 (.int .i64 0) 8 rfl Try.underlying24 info3 rfl (by decide) (by omega) v312 y311 y314 _ _ _ (fun k_ => (w.heap.size ≤ k_) ∧ some k_ ≠ (.slice Ao54 x13_3.length co54 : Value).ownBlock ∧ some k_ ≠ (.slice (some ad297) x7_1.length co36 : Value).ownBlock) (fun _ => False) rfl rfl ?aO ?aR (fun _ _ h => h) (fun _ h => h.elim) ?aF ?aB ?aS ?aL ?_
       (case aR => exact xC ((Kd.V_reads' HO318.out).2.2))
       (case aB => exact (xB1 GE284.out HB.out))
       (case aF => exact (fun k_ hk => ⟨(Nat.le_trans (below_size (xB1 GE284.out HB.out)) hk), Kd.fresh' (Kd.R_lt (xR HO_13.out)) k_ hk, Kd.fresh' (Kd.R_lt (xR HO_70.out)) k_ hk⟩))
       (case aO => exact (by (with_reducible repeat (first | apply Kd.R_alloc | apply Kd.R_drewN | apply Kd.R_drew)); exact Kd.R_mono HO313.out (fun _ hk => ⟨hk.1.1.1, ⟨hk.1.2, hk.2⟩⟩)))
       (case aS => exact (below_size (xB1 GE284.out HB.out)))
       (case aL => have := LMc48.out; omega)
       intro v320 w58 ho hb hg hat
       rw [← Ny319.out] at ho
       replace HO_10 := xA (Kd.N_afterv (ok := (fun k_ => (w.heap.size ≤ k_) ∧ some k_ ≠ (.slice Ao54 x13_3.length co54 : Value).ownBlock ∧ some k_ ≠ (.slice (some ad297) x7_1.length co36 : Value).ownBlock ∧ k_ ≠ gb284)) (by (with_reducible repeat (first | apply Kd.N_alloc | apply Kd.N_drewN | apply Kd.N_drew)); exact HO_10.out) hg hat)
       replace HO_13 := xA (Kd.R_after (ok := (fun k_ => (w.heap.size ≤ k_) ∧ some k_ ≠ (.slice (some ad297) x7_1.length co36 : Value).ownBlock)) (xR HO_13.out) hg hat)
       replace HO_70 := xA (Kd.R_after (ok := (fun k_ => (w.heap.size ≤ k_) ∧ some k_ ≠ (.slice Ao54 x13_3.length co54 : Value).ownBlock)) (xR HO_70.out) hg hat)
       replace BK284 := xA (blk_grown (xK BK284.out) hg (Kd.R_ne HO313.out BK284.out (by decide)))
       replace HO318 := xA (Kd.V_afterv (ok := (fun k_ => (w.heap.size ≤ k_) ∧ some k_ ≠ (u10 : Value).ownBlock ∧ some k_ ≠ (.slice (some ad297) x7_1.length co36 : Value).ownBlock ∧ k_ ≠ gb284)) (by (with_reducible repeat (first | apply Kd.V_alloc | apply Kd.V_drewN | apply Kd.V_drew)); exact Kd.V_mono HO318.out (fun _ hk => ⟨⟨hk.1.1.1.1, ⟨hk.1.1.2, ⟨hk.1.1.1.2, hk.1.2⟩⟩⟩, hk.2⟩)) hg hat)
       replace HO326 := xA (Kd.V_afterv (ok := (fun k_ => (w.heap.size ≤ k_) ∧ some k_ ≠ (u10 : Value).ownBlock ∧ some k_ ≠ (.slice (some ad297) x7_1.length co36 : Value).ownBlock ∧ k_ ≠ gb284)) (by (with_reducible repeat (first | apply Kd.V_alloc | apply Kd.V_drewN | apply Kd.V_drew)); exact Kd.V_mono HO326.out (fun _ hk => ⟨⟨hk.1.1.1.1, ⟨hk.1.1.2, ⟨hk.1.1.1.2, hk.1.2⟩⟩⟩, hk.2⟩)) hg hat)
       replace HB := xA (hb)
       have HO321 := xA (ho)
       clear HO313
       clear ho hb hg hat
       refine hK.out _ _ trivial (fun hHeld => ?_)
       clear hK K
       refine xN ?_
       refine xU 8 109 x7a9 (fun K hK => ?_)
       refine Kd.R_append_rows_step (Kd.int .i64) (w0 := w) w.heap.size (by rfl) (.tmp 105) (.tmp 108) 24 3 (.int .i64 0) 8 rfl Try.underlying24 info3 rfl (by decide) (by omega) v320 y319 y322 _ _ _ (fun k_ => (w.heap.size ≤ k_) ∧ some k_ ≠ (.slice Ao54 x13_3.length co54 : Value).ownBlock ∧ some k_ ≠ (.slice (some ad297) x7_1.length co36 : Value).ownBlock) (fun _ => False) rfl rfl ?aO ?aR (fun _ _ h => h) (fun _ h => h.elim) ?aF ?aB ?aS ?aL ?_
       (case aR => exact xC ((Kd.V_reads' HO326.out).2.2))
       (case aB => exact (xB1 GE284.out HB.out))
       (case aF => exact (fun k_ hk => ⟨(Nat.le_trans (below_size (xB1 GE284.out HB.out)) hk), Kd.fresh' (Kd.R_lt (xR HO_13.out)) k_ hk, Kd.fresh' (Kd.R_lt (xR HO_70.out)) k_ hk⟩))
       (case aO => exact (xR HO321.out))
       (case aS => exact (below_size (xB1 GE284.out HB.out)))
       (case aL => have := LMc51.out; omega)
       intro v328 w59 ho hb hg hat
       rw [← Ny327.out] at ho
       replace HO_10 := xA (Kd.N_afterv (ok := (fun k_ => (w.heap.size ≤ k_) ∧ some k_ ≠ (.slice Ao54 x13_3.length co54 : Value).ownBlock ∧ some k_ ≠ (.slice (some ad297) x7_1.length co36 : Value).ownBlock ∧ k_ ≠ gb284)) (by (with_reducible repeat (first | apply Kd.N_alloc | apply Kd.N_drewN | apply Kd.N_drew)); exact HO_10.out) hg hat)
       replace HO_13 := xA (Kd.R_after (ok := (fun k_ => (w.heap.size ≤ k_) ∧ some k_ ≠ (.slice (some ad297) x7_1.length co36 : Value).ownBlock)) (xR HO_13.out) hg hat)
       replace HO_70 := xA (Kd.R_after (ok := (fun k_ => (w.heap.size ≤ k_) ∧ some k_ ≠ (.slice Ao54 x13_3.length co54 : Value).ownBlock)) (xR HO_70.out) hg hat)
       replace BK284 := xA (blk_grown (xK BK284.out) hg (Kd.R_ne HO321.out BK284.out (by decide)))
       replace HO318 := xA (Kd.V_afterv (ok := (fun k_ => (w.heap.size ≤ k_) ∧ some k_ ≠ (u10 : Value).ownBlock ∧ some k_ ≠ (.slice (some ad297) x7_1.length co36 : Value).ownBlock ∧ k_ ≠ gb284)) (by (with_reducible repeat (first | apply Kd.V_alloc | apply Kd.V_drewN | apply Kd.V_drew)); exact HO318.out) hg hat)
       replace HO326 := xA (Kd.V_afterv (ok := (fun k_ => (w.heap.size ≤ k_) ∧ some k_ ≠ (u10 : Value).ownBlock ∧ some k_ ≠ (.slice (some ad297) x7_1.length co36 : Value).ownBlock ∧ k_ ≠ gb284)) (by (with_reducible repeat (first | apply Kd.V_alloc | apply Kd.V_drewN | apply Kd.V_drew)); exact HO326.out) hg hat)
       replace HB := xA (hb)
       have HO329 := xA (ho)
       clear HO321
       clear ho hb hg hat
       refine hK.out _ _ trivial (fun hHeld => ?_)
       clear hK K
       refine xN ?_
       refine xP 9 13 x7a10 ?_
       refine xDn ?_
       obtain ⟨Ao60, co60, eo60⟩ := Kd.N_slice HO_10.out
       subst eo60
       try go_wp2
       go_loopg [16] k3 (fun kq v16 w' => ∃ (x16_4 : Int), v16 = .int .i64 x16_4 ∧ Aside0 (spec_foCycles.l4 kq a1 x10_2 y327 x16_4 x7_1 (x7_1.length : Int) x72_2 a0_0 a0_1 a0_2 a0_3 a0_4 = some r) ∧ Aside0 (kq ≤ k3) ∧ Aside0 (Kd.N (Kd.slice 3 (Kd.int .i64)) 24 w' w.heap.size (fun k_ => (w.heap.size ≤ k_) ∧ some k_ ≠ (v328 : Value).ownBlock ∧ some k_ ≠ ((.slice (some ad297) x7_1.length co36) : Value).ownBlock ∧ k_ ≠ gb284) (.slice Ao60 x10_2.length co60) x10_2) ∧ Aside0 (Kd.R (Kd.int .i64) 3 w' w.heap.size (fun k_ => (w.heap.size ≤ k_) ∧ some k_ ≠ ((.slice (some ad297) x7_1.length co36) : Value).ownBlock) v328 y327) ∧ Aside0 (Kd.R (Kd.int .i64) 3 w' w.heap.size (fun k_ => (w.heap.size ≤ k_) ∧ some k_ ≠ (v328 : Value).ownBlock) (.slice (some ad297) x7_1.length co36) x7_1) ∧ Aside0 (w'.heap[gb284]? = some (.cells #[.int .i64 a0_0, .int .i64 a0_1, .int .i64 a0_2, .int .i64 a0_3, .bool a0_4] 62 (0, 0))) ∧ Aside0 (Below w.heap.size w w'))
       case atStart => exact ⟨((x10_2.length : Int)), xs, H', ⟨Nat.le_refl _⟩, ⟨by (with_reducible repeat (first | apply Kd.N_alloc | apply Kd.N_drewN | apply Kd.N_drew)); exact Kd.N_mono HO_10.out (fun _ hk => ⟨hk.1.1, ⟨hk.2, ⟨hk.1.2.2.1, hk.1.2.2.2⟩⟩⟩)⟩, ⟨by (with_reducible repeat (first | apply Kd.R_alloc | apply Kd.R_drewN | apply Kd.R_drew)); exact Kd.R_mono HO329.out (fun _ hk => ⟨hk.1, hk.2.2⟩)⟩, ⟨by (with_reducible repeat (first | apply Kd.R_alloc | apply Kd.R_drewN | apply Kd.R_drew)); exact Kd.R_mono HO_70.out (fun _ hk => ⟨hk.1.1, hk.2⟩)⟩, ⟨xK BK284.out⟩, ⟨xB1 GE284.out HB.out⟩⟩
       case round =>
        clear H'
        try clear c45b0
        try clear c45b1
        try clear c46b0
        try clear c46b1
        try clear c47b0
        try clear c47b1
        try clear c49b0
        try clear c50b0
        try clear c53
        try clear q53
        try clear q55
        try clear q053
        obtain ⟨x16_4, rfl, HA, HK4, HO_10, HO_13, HO_70, BK284, HB⟩ := hrel
        cases gk with
        | zero => exact absurd HA.out (by simp [spec_foCycles.l4])
        | succ k4 =>
         have H := HA.out
         clear HA
         simp only [spec_foCycles.l4] at H
         by_cases c61 : x16_4 > 0
         rotate_left
         ·rw [if_neg c61] at H
          have c61b0 : decide (0 < x16_4) = false := decide_eq_false c61
          clear c61
          obtain ⟨y355, hy355⟩ : ∃ y_ : List (List Int), y_ = (([] : List (List Int))) := ⟨_, rfl⟩
          replace H : (if 0 ≤ x16_4 then (if x16_4 ≤ (x10_2.length : Int) then ((some (x10_2.take (x16_4 : Int).toNat : List (List Int))).bind fun y358 => (if y355.length + y358.length < 5864062014805 then ((some (y355 ++ y358 : List (List Int))).bind fun y363 => (if y363.length < 5864062014805 then ((some (y363 ++ [y327] : List (List Int))).bind fun y366 => ((some (x10_2.drop (x16_4 : Int).toNat : List (List Int))).bind fun y369 => (if y366.length + y369.length < 5864062014805 then (spec_foCycles.l2 k4 a1 (y366 ++ y369) x7_1 (x7_1.length : Int) (wrap64 (x72_2 + 1)) a0_0 a0_1 a0_2 a0_3 a0_4) else (none)))) else (none))) else (none))) else (none)) else (none)) = some r := by first | (rw [hy355]; with_reducible exact H) | (have H2_ := (Option.bind_some _ _).symm.trans H; rw [hy355]; with_reducible exact H2_) | (have H2_ := (Option.bind_some _ _).symm.trans H; with_reducible exact H2_) | with_reducible exact H | (rw [hy355]; exact H) | exact H
          have Ny355 := xA hy355
          clear hy355
          by_cases c86 : 0 ≤ x16_4
          rotate_left
          ·rw [if_neg c86] at H
           exact absurd H (by simp)
          rw [if_pos c86] at H
          have c86b0 := eq_true c86
          have c86b1 : decide (0 ≤ x16_4) = true := decide_eq_true c86
          clear c86
          by_cases c87 : x16_4 ≤ (x10_2.length : Int)
          rotate_left
          ·rw [if_neg c87] at H
           exact absurd H (by simp)
          rw [if_pos c87] at H
          have c87b0 := eq_true c87
          have c87b1 : decide (x16_4 ≤ (x10_2.length : Int)) = true := decide_eq_true c87
          clear c87
          obtain ⟨y358, hy358⟩ : ∃ y_ : List (List Int), y_ = (x10_2.take (x16_4 : Int).toNat) := ⟨_, rfl⟩
          replace H : (if y355.length + y358.length < 5864062014805 then ((some (y355 ++ y358 : List (List Int))).bind fun y363 => (if y363.length < 5864062014805 then ((some (y363 ++ [y327] : List (List Int))).bind fun y366 => ((some (x10_2.drop (x16_4 : Int).toNat : List (List Int))).bind fun y369 => (if y366.length + y369.length < 5864062014805 then (spec_foCycles.l2 k4 a1 (y366 ++ y369) x7_1 (x7_1.length : Int) (wrap64 (x72_2 + 1)) a0_0 a0_1 a0_2 a0_3 a0_4) else (none)))) else (none))) else (none)) = some r := by first | (rw [hy358]; with_reducible exact H) | (have H2_ := (Option.bind_some _ _).symm.trans H; rw [hy358]; with_reducible exact H2_) | (have H2_ := (Option.bind_some _ _).symm.trans H; with_reducible exact H2_) | with_reducible exact H | (rw [hy358]; exact H) | exact H
          have Ny358 := xA hy358
          clear hy358
          by_cases c88 : y355.length + y358.length < 5864062014805
          rotate_left
          ·rw [if_neg c88] at H
           exact absurd H (by simp)
          rw [if_pos c88] at H
          have LMc88 := xA c88
          clear c88
          obtain ⟨y363, hy363⟩ : ∃ y_ : List (List Int), y_ = (y355 ++ y358) := ⟨_, rfl⟩
          replace H : (if y363.length < 5864062014805 then ((some (y363 ++ [y327] : List (List Int))).bind fun y366 => ((some (x10_2.drop (x16_4 : Int).toNat : List (List Int))).bind fun y369 => (if y366.length + y369.length < 5864062014805 then (spec_foCycles.l2 k4 a1 (y366 ++ y369) x7_1 (x7_1.length : Int) (wrap64 (x72_2 + 1)) a0_0 a0_1 a0_2 a0_3 a0_4) else (none)))) else (none)) = some r := by first | (rw [hy363]; with_reducible exact H) | (have H2_ := (Option.bind_some _ _).symm.trans H; rw [hy363]; with_reducible exact H2_) | (have H2_ := (Option.bind_some _ _).symm.trans H; with_reducible exact H2_) | with_reducible exact H | (rw [hy363]; exact H) | exact H
          have Ny363 := xA hy363
          clear hy363
          by_cases c89 : y363.length < 5864062014805
          rotate_left
          ·rw [if_neg c89] at H
           exact absurd H (by simp)
          rw [if_pos c89] at H
          have LMc89 := xA c89
          clear c89
          obtain ⟨y366, hy366⟩ : ∃ y_ : List (List Int), y_ = (y363 ++ [y327]) := ⟨_, rfl⟩
          replace H : ((some (x10_2.drop (x16_4 : Int).toNat : List (List Int))).bind fun y369 => (if y366.length + y369.length < 5864062014805 then (spec_foCycles.l2 k4 a1 (y366 ++ y369) x7_1 (x7_1.length : Int) (wrap64 (x72_2 + 1)) a0_0 a0_1 a0_2 a0_3 a0_4) else (none))) = some r := by first | (rw [hy366]; with_reducible exact H) | (have H2_ := (Option.bind_some _ _).symm.trans H; rw [hy366]; with_reducible exact H2_) | (have H2_ := (Option.bind_some _ _).symm.trans H; with_reducible exact H2_) | with_reducible exact H | (rw [hy366]; exact H) | exact H
          have Ny366 := xA hy366
          clear hy366
          have c90b0 := eq_true (of_decide_eq_true (by first | (with_reducible assumption) | assumption) : 0 ≤ x16_4)
          have c91b0 := eq_true (of_decide_eq_true (by first | (with_reducible assumption) | assumption) : x16_4 ≤ (x10_2.length : Int))
          obtain ⟨y369, hy369⟩ : ∃ y_ : List (List Int), y_ = (x10_2.drop (x16_4 : Int).toNat) := ⟨_, rfl⟩
          replace H : (if y366.length + y369.length < 5864062014805 then (spec_foCycles.l2 k4 a1 (y366 ++ y369) x7_1 (x7_1.length : Int) (wrap64 (x72_2 + 1)) a0_0 a0_1 a0_2 a0_3 a0_4) else (none)) = some r := by first | (rw [hy369]; with_reducible exact H) | (have H2_ := (Option.bind_some _ _).symm.trans H; rw [hy369]; with_reducible exact H2_) | (have H2_ := (Option.bind_some _ _).symm.trans H; with_reducible exact H2_) | with_reducible exact H | (rw [hy369]; exact H) | exact H
          have Ny369 := xA hy369
          clear hy369
          by_cases c92 : y366.length + y369.length < 5864062014805
          rotate_left
          ·rw [if_neg c92] at H
           exact absurd H (by simp)
          rw [if_pos c92] at H
          have LMc92 := xA c92
          clear c92
          obtain ⟨y374, hy374⟩ : ∃ y_ : List (List Int), y_ = (y366 ++ y369) := ⟨_, rfl⟩
          replace H : (spec_foCycles.l2 k4 a1 y374 x7_1 (x7_1.length : Int) (wrap64 (x72_2 + 1)) a0_0 a0_1 a0_2 a0_3 a0_4) = some r := by first | (rw [hy374]; with_reducible exact H) | (have H2_ := (Option.bind_some _ _).symm.trans H; rw [hy374]; with_reducible exact H2_) | (have H2_ := (Option.bind_some _ _).symm.trans H; with_reducible exact H2_) | with_reducible exact H | (rw [hy374]; exact H) | exact H
          have Ny374 := xA hy374
          clear hy374
          have H' := xA H
          clear H
          try go_wp2
          replace HO_10 := xA (Kd.N_drew HO_10.out)
          replace HO_13 := xA (Kd.R_drew HO_13.out)
          replace HO_70 := xA (Kd.R_drew HO_70.out)
          replace BK284 := xA (blk_drew BK284.out)
          replace HB := xA (below_drew1 HB.out)
          refine start_ (n := 15) (S := fun w' => True) (ds := []) x7a11 (by kernel_rfl) rfl rfl trivial (fun hHeld => ?_); refine with_tabW spec_foCycles.tab27 spec_foCycles.bits27 (fun HT_ HW_ => ?_)
          generalize wr.drew = w93 at HO_10 HO_13 HO_70 BK284 HB hHeld ⊢
          refine xP 0 112 x7a12 ?_
          refine xP 1 113 x7a13 ?_
          refine xP 2 114 x7a14 ?_
          refine pure_ (i := 3) (N := some 115) (v := undef) (a' := ?_) x7a15 rfl rfl (any_of HT_.out (by kernel_rfl)) (fun _ _ _ h => h) (Or.inr ⟨by rfl, rfl⟩) ?_ ?_
          rotate_left
          ·exact xE
          refine pure_ (i := 4) (N := some 116) (v := undef) (a' := ?_) x7a16 rfl rfl (any_of HT_.out (by kernel_rfl)) (fun _ _ _ h => h) (Or.inr ⟨by rfl, rfl⟩) ?_ ?_
          rotate_left
          ·exact xE
          refine pure_ (i := 5) (N := some 117) (v := undef) (a' := ?_) x7a17 rfl rfl (any_of HT_.out (by kernel_rfl)) (fun _ _ _ h => h) (Or.inr ⟨by rfl, rfl⟩) ?_ ?_
          rotate_left
          ·exact xE
          refine pure_ (i := 6) (N := some 118) (v := undef) (a' := ?_) x7a18 rfl rfl (any_of HT_.out (by kernel_rfl)) (fun _ _ _ h => h) (Or.inr ⟨by rfl, rfl⟩) ?_ ?_
          rotate_left
          ·exact xE
          refine pure_ (i := 7) (N := some 119) (v := undef) (a' := ?_) x7a19 rfl rfl (any_of HT_.out (by kernel_rfl)) (fun _ _ _ h => h) (Or.inr ⟨by rfl, rfl⟩) ?_ ?_
          rotate_left
          ·exact xE
          refine pure_ (i := 8) (N := some 120) (v := undef) (a' := ?_) x7a20 rfl rfl (any_of HT_.out (by kernel_rfl)) (fun _ _ _ h => h) (Or.inr ⟨by rfl, rfl⟩) ?_ ?_
          rotate_left
          ·exact xE
          refine pure_ (i := 9) (N := some 121) (v := undef) (a' := ?_) x7a21 rfl rfl (any_of HT_.out (by kernel_rfl)) (fun _ _ _ h => h) (Or.inr ⟨by rfl, rfl⟩) ?_ ?_
          rotate_left
          ·exact xE
          refine pure_ (i := 10) (N := some 122) (v := undef) (a' := ?_) x7a22 rfl rfl (any_of HT_.out (by kernel_rfl)) (fun _ _ _ h => h) (Or.inr ⟨by rfl, rfl⟩) ?_ ?_
          rotate_left
          ·exact xE
          refine pure_ (i := 11) (N := some 123) (v := undef) (a' := ?_) x7a23 rfl rfl (any_of HT_.out (by kernel_rfl)) (fun _ _ _ h => h) (Or.inr ⟨by rfl, rfl⟩) ?_ ?_
          rotate_left
          ·exact xE
          refine pure_ (i := 12) (N := some 124) (v := undef) (a' := ?_) x7a24 rfl rfl (any_of HT_.out (by kernel_rfl)) (fun _ _ _ h => h) (Or.inr ⟨by rfl, rfl⟩) ?_ ?_
          rotate_left
          ·exact xE
          refine pure_ (i := 13) (N := some 125) (v := undef) (a' := ?_) x7a25 rfl rfl (any_of HT_.out (by kernel_rfl)) (fun _ _ _ h => h) (Or.inr ⟨by rfl, rfl⟩) ?_ ?_
          rotate_left
          ·exact xE
          refine xP 14 126 x7a26 ?_
          refine xDn ?_
          try go_wp2_with (first | ((with_reducible refine gate_dst (N := 129) rfl ?_); refine Kd.N_lit (Kd.slice 3 (Kd.int .i64)) _ 24 ?hg (N' := 129) ?hd (xs := ([] : List (List Int))) (inner := []) (ok := (fun k_ => (w.heap.size ≤ k_) ∧ some k_ ≠ (.slice Ao60 x10_2.length co60 : Value).ownBlock ∧ some k_ ≠ (v328 : Value).ownBlock ∧ some k_ ≠ (.slice (some ad297) x7_1.length co36 : Value).ownBlock ∧ k_ ≠ gb284)) (okp := (fun k_ => (w.heap.size ≤ k_) ∧ some k_ ≠ (.slice Ao60 x10_2.length co60 : Value).ownBlock ∧ some k_ ≠ (v328 : Value).ownBlock ∧ some k_ ≠ (.slice (some ad297) x7_1.length co36 : Value).ownBlock ∧ k_ ≠ gb284)) ?hr ?hp (fun _ hk => hk) ((show ∀ k_, w93.heap.size ≤ k_ → (fun k_ => (w.heap.size ≤ k_) ∧ some k_ ≠ (.slice Ao60 x10_2.length co60 : Value).ownBlock ∧ some k_ ≠ (v328 : Value).ownBlock ∧ some k_ ≠ (.slice (some ad297) x7_1.length co36 : Value).ownBlock ∧ k_ ≠ gb284) k_ from fun k_ hk => ⟨(Nat.le_trans (below_size (xB1 GE284.out HB.out)) hk), Kd.fresh' (Kd.N_lt (by (with_reducible repeat (first | apply Kd.N_alloc | apply Kd.N_drewN | apply Kd.N_drew)); exact HO_10.out)) k_ hk, Kd.fresh' (Kd.R_lt (xR HO_13.out)) k_ hk, Kd.fresh' (Kd.R_lt (xR HO_70.out)) k_ hk, Kd.freshB (xK BK284.out) k_ hk⟩) _ (Nat.le_refl _)) (Below.refl _ _) (Nat.le_refl _) (by simp) ?_; (case hd => rfl); (case hg => rfl); (case hr => first | (go_simp; done) | (go_simp; rfl)); (case hp => exact (Reps.none _ _)); intro v356 w94 ho95 hb hg_ hnew_; clear hg_ hnew_; (first | rw [← Ny355.out] at ho95 | (simp only [Int.reduceToNat] at ho95; rw [← Ny355.out] at ho95)); replace HO_10 := xA (Kd.N_elder' (by (with_reducible repeat (first | apply Kd.N_alloc | apply Kd.N_drewN | apply Kd.N_drew)); exact HO_10.out) (Kd.N_base ho95) hb); replace HO_13 := xA (Kd.R_below (xR HO_13.out) hb); replace HO_70 := xA (Kd.R_below (xR HO_70.out) hb); have HO357 := xA (Kd.N_lower ho95 (below_size (xB1 GE284.out HB.out))); replace BK284 := xkb BK284 hb; replace HB := xA (below_step (xB1 GE284.out HB.out) hb); clear hb ho95; have q96 : (x16_4 : Int) ≤ ((x10_2.length : Int) : Int) := of_decide_eq_true (by first | (with_reducible assumption) | assumption); obtain ⟨i096, hi096, _, hsz96, _⟩ := info_parts info24; have hroom96 : x10_2.length ≤ co60 := (Kd.N_reads' HO_10.out).2.1; have hC96 : Kd.F (Kd.slice 3 (Kd.int .i64)) _ _ Ao60 x10_2.length x10_2 := (Kd.V_at (base := w.heap.size) (Kd.N_V HO_10.out)).2.2; have hcut96 := cut_to (P := Try.prog) 77 24 .i64 Try.underlying77 hi096 Ao60 x10_2.length co60 x16_4 (of_decide_eq_true (by first | (with_reducible assumption) | assumption)) q96 hroom96; have hr96 := Kd.F_take (m := (x16_4 : Int).toNat) hC96 (by omega); have hy96 : y358.length = (x16_4 : Int).toNat := (by rw [Ny358.out, List.length_take]; omega); rw [← Ny358.out] at hr96; rw [← hy96] at hcut96; have HO362 := xA (show Kd.V (Kd.slice 3 (Kd.int .i64)) 24 _ w.heap.size _ (.slice Ao60 y358.length co60) y358 from Kd.V_mk (by omega) hr96); have HC362 := xA (show y358.length ≤ co60 from by omega); clear hr96 hC96 hroom96 hi096 hsz96; have KY96 := xA hy96; clear hy96; replace q96 := eq_true q96) | ((with_reducible refine gate_builtin (b := .append) (xs := #[.tmp 129, .tmp 132]) rfl ?_); at_builtin; refine Kd.N_append_rows (Kd.slice 3 (Kd.int .i64)) (w0 := w) w.heap.size rfl (.tmp 129) (.tmp 132) 77 24 (.slice none 0 0) 24 rfl Try.underlying77 info24 rfl (by decide) (by omega) v356 y355 y358 _ _ _ (fun k_ => (w.heap.size ≤ k_) ∧ some k_ ≠ (v328 : Value).ownBlock ∧ some k_ ≠ (.slice (some ad297) x7_1.length co36 : Value).ownBlock ∧ k_ ≠ gb284) (fun k_ => ((fun k_ => (w.heap.size ≤ k_) ∧ some k_ ≠ (v328 : Value).ownBlock ∧ some k_ ≠ (.slice (some ad297) x7_1.length co36 : Value).ownBlock ∧ k_ ≠ gb284)) k_ ∧ some k_ ≠ (v356 : Value).ownBlock) rfl rfl ?aO ?aR (fun _ hk => hk) ?aF ?aB ?aS ?aL ?_; (case aR => exact (by skip; exact Kd.V_F (Kd.V_mono (ok' := (fun k_ => ((fun k_ => (w.heap.size ≤ k_) ∧ some k_ ≠ (v328 : Value).ownBlock ∧ some k_ ≠ (.slice (some ad297) x7_1.length co36 : Value).ownBlock ∧ k_ ≠ gb284)) k_ ∧ some k_ ≠ (v356 : Value).ownBlock)) (HO362.out) (fun k_ hk => ⟨⟨hk.1.1, ⟨hk.1.2.1, ⟨hk.1.2.2.1, hk.1.2.2.2⟩⟩⟩, hk.2⟩)))); (case aB => exact (xB1 GE284.out HB.out)); (case aF => exact (fun k_ hk => ⟨(Nat.le_trans (below_size (xB1 GE284.out HB.out)) hk), Kd.fresh' (Kd.R_lt (xR HO_13.out)) k_ hk, Kd.fresh' (Kd.R_lt (xR HO_70.out)) k_ hk, Kd.freshB (xK BK284.out) k_ hk⟩)); (case aO => exact (by (with_reducible repeat (first | apply Kd.N_alloc | apply Kd.N_drewN | apply Kd.N_drew)); exact Kd.N_mono HO357.out (fun _ hk => ⟨hk.1, ⟨hk.2.2.1, ⟨hk.2.2.2.1, hk.2.2.2.2⟩⟩⟩))); (case aS => exact (below_size (xB1 GE284.out HB.out))); (case aL => have := LMc88.out; omega); intro v364 w97 ho hb hg hat; rw [← Ny363.out] at ho; replace HO_10 := xA (Kd.N_afterv (ok := (fun k_ => (w.heap.size ≤ k_) ∧ some k_ ≠ (v328 : Value).ownBlock ∧ some k_ ≠ (.slice (some ad297) x7_1.length co36 : Value).ownBlock ∧ k_ ≠ gb284)) (by (with_reducible repeat (first | apply Kd.N_alloc | apply Kd.N_drewN | apply Kd.N_drew)); exact HO_10.out) hg hat); replace HO_13 := xA (Kd.R_over' (xR HO_13.out) (Kd.N_typed (by (with_reducible repeat (first | apply Kd.N_alloc | apply Kd.N_drewN | apply Kd.N_drew)); exact HO357.out)) (by decide) hg); replace HO_70 := xA (Kd.R_over' (xR HO_70.out) (Kd.N_typed (by (with_reducible repeat (first | apply Kd.N_alloc | apply Kd.N_drewN | apply Kd.N_drew)); exact HO357.out)) (by decide) hg); replace BK284 := xA (blk_grown (xK BK284.out) hg (Kd.N_ne HO357.out BK284.out (by decide))); replace HO362 := xA (Kd.V_afterv (ok := (fun k_ => (w.heap.size ≤ k_) ∧ some k_ ≠ (v328 : Value).ownBlock ∧ some k_ ≠ (.slice (some ad297) x7_1.length co36 : Value).ownBlock ∧ k_ ≠ gb284)) (by (with_reducible repeat (first | apply Kd.V_alloc | apply Kd.V_drewN | apply Kd.V_drew)); exact HO362.out) hg hat); replace HB := xA (hb); have HO365 := xA (ho); clear HO357; clear ho hb hg hat; obtain ⟨Ao99, co99, eo99⟩ := Kd.R_slice HO_13.out; subst eo99) | ((with_reducible refine gate_builtin (b := .append) (xs := #[.tmp 133, .tmp 135]) rfl ?_); at_builtin; refine Kd.N_append (Kd.slice 3 (Kd.int .i64)) (w0 := w) w.heap.size rfl (.tmp 133) (.tmp 135) 77 24 (.slice none 0 0) 24 rfl Try.underlying77 info24 rfl (by decide) (by omega) v364 y363 y327 [.slice Ao99 y327.length co99] (fun k_ => (w.heap.size ≤ k_) ∧ some k_ ≠ (.slice (some ad297) x7_1.length co36 : Value).ownBlock ∧ k_ ≠ gb284) (fun k_ => ((fun k_ => (w.heap.size ≤ k_) ∧ some k_ ≠ (.slice (some ad297) x7_1.length co36 : Value).ownBlock ∧ k_ ≠ gb284)) k_ ∧ some k_ ≠ (v364 : Value).ownBlock) rfl rfl ?aP (fun _ hk => hk) ?aF ?aO ?aB ?aS ?aL ?_; (case aP => exact (Kd.FK_slice_mk (Kd.R_reads' (Kd.R_mono (ok' := (fun k_ => ((fun k_ => (w.heap.size ≤ k_) ∧ some k_ ≠ (.slice (some ad297) x7_1.length co36 : Value).ownBlock ∧ k_ ≠ gb284)) k_ ∧ some k_ ≠ (v364 : Value).ownBlock)) (Kd.R_types (Kd.R_apart' (HO_13.out) (Kd.N_typed HO365.out) (by decide)) BK284.out (by decide)) (fun k_ hk => ⟨⟨hk.1.1.1, ⟨hk.1.1.2, hk.2⟩⟩, hk.1.2⟩))).2.1 (Kd.R_F (Kd.R_mono (ok' := (fun k_ => ((fun k_ => (w.heap.size ≤ k_) ∧ some k_ ≠ (.slice (some ad297) x7_1.length co36 : Value).ownBlock ∧ k_ ≠ gb284)) k_ ∧ some k_ ≠ (v364 : Value).ownBlock)) (Kd.R_types (Kd.R_apart' (HO_13.out) (Kd.N_typed HO365.out) (by decide)) BK284.out (by decide)) (fun k_ hk => ⟨⟨hk.1.1.1, ⟨hk.1.1.2, hk.2⟩⟩, hk.1.2⟩))))); (case aB => exact (xB1 GE284.out HB.out)); (case aF => exact (fun k_ hk => ⟨(Nat.le_trans (below_size (xB1 GE284.out HB.out)) hk), Kd.fresh' (Kd.R_lt (xR HO_70.out)) k_ hk, Kd.freshB (xK BK284.out) k_ hk⟩)); (case aO => exact (by (with_reducible repeat (first | apply Kd.N_alloc | apply Kd.N_drewN | apply Kd.N_drew)); exact Kd.N_mono HO365.out (fun _ hk => ⟨hk.1, ⟨hk.2.2.1, hk.2.2.2⟩⟩))); (case aS => exact (below_size (xB1 GE284.out HB.out))); (case aL => have := LMc89.out; omega); intro v367 w98 ho hb hg hat; rw [← Ny366.out] at ho; replace HO_10 := xA (Kd.N_afterv (ok := (fun k_ => (w.heap.size ≤ k_) ∧ some k_ ≠ (.slice Ao99 y327.length co99 : Value).ownBlock ∧ some k_ ≠ (.slice (some ad297) x7_1.length co36 : Value).ownBlock ∧ k_ ≠ gb284)) (by (with_reducible repeat (first | apply Kd.N_alloc | apply Kd.N_drewN | apply Kd.N_drew)); exact HO_10.out) hg hat); replace HO_70 := xA (Kd.R_over' (xR HO_70.out) (Kd.N_typed (by (with_reducible repeat (first | apply Kd.N_alloc | apply Kd.N_drewN | apply Kd.N_drew)); exact HO365.out)) (by decide) hg); replace BK284 := xA (blk_grown (xK BK284.out) hg (Kd.N_ne HO365.out BK284.out (by decide))); replace HO362 := xA (Kd.V_afterv (ok := (fun k_ => (w.heap.size ≤ k_) ∧ some k_ ≠ (.slice Ao99 y327.length co99 : Value).ownBlock ∧ some k_ ≠ (.slice (some ad297) x7_1.length co36 : Value).ownBlock ∧ k_ ≠ gb284)) (by (with_reducible repeat (first | apply Kd.V_alloc | apply Kd.V_drewN | apply Kd.V_drew)); exact HO362.out) hg hat); replace HB := xA (hb); have HO368 := xA (ho); clear HO365 HO_13; clear ho hb hg hat; have q100 : (x16_4 : Int) ≤ ((x10_2.length : Int) : Int) := of_decide_eq_true (by first | (with_reducible assumption) | assumption); obtain ⟨i0100, hi0100, _, hsz100, _⟩ := info_parts info24; have hroom100 : x10_2.length ≤ co60 := (Kd.N_reads' HO_10.out).2.1; have hC100 : Kd.F (Kd.slice 3 (Kd.int .i64)) _ _ Ao60 x10_2.length x10_2 := (Kd.V_at (base := w.heap.size) (Kd.N_V HO_10.out)).2.2; have q0100 : (0 : Int) ≤ (x16_4 : Int) := of_decide_eq_true (by first | (with_reducible assumption) | assumption); have hcut100 := cut_from (P := Try.prog) 77 24 .i64 Try.underlying77 hi0100 1 hsz100 Ao60 x10_2.length co60 x16_4 q0100 q100; have hr100 := Kd.F_cut (m := (x16_4 : Int).toNat) (c := co60) hC100 (by omega) hroom100; obtain ⟨A100, hA100⟩ : ∃ A1, A1 = (if co60 = (x16_4 : Int).toNat then Ao60 else (Ao60 : Option Addr).map (·.add ((x16_4 : Int).toNat * 1))) := ⟨_, rfl⟩; obtain ⟨c100, hc100⟩ : ∃ c1, c1 = co60 - (x16_4 : Int).toNat := ⟨_, rfl⟩; have hy100 : y369.length = x10_2.length - (x16_4 : Int).toNat := (by rw [Ny369.out, List.length_drop] <;> omega); rw [show (x10_2).drop (x16_4 : Int).toNat = y369 from Ny369.out.symm] at hr100; replace hr100 : Kd.F (Kd.slice 3 (Kd.int .i64)) _ _ A100 y369.length y369 := (by rw [hA100]; exact hr100); rw [← hy100, ← hA100, ← hc100] at hcut100; have HO373 := xA (show Kd.V (Kd.slice 3 (Kd.int .i64)) 24 _ w.heap.size _ (.slice A100 y369.length c100) y369 from Kd.V_mk (by rw [hy100, hc100]; exact Nat.sub_le_sub_right hroom100 _) hr100); have HC373 := xA (show y369.length ≤ c100 from by rw [hy100, hc100]; exact Nat.sub_le_sub_right hroom100 _); clear hr100 hC100 hroom100 hi0100 hsz100 hc100; have KY100 := xA hy100; have KA100 := xA hA100; clear hy100 hA100; replace q100 := eq_true q100) | ((with_reducible refine gate_builtin (b := .append) (xs := #[.tmp 137, .tmp 140]) rfl ?_); at_builtin; refine Kd.N_append_rows (Kd.slice 3 (Kd.int .i64)) (w0 := w) w.heap.size rfl (.tmp 137) (.tmp 140) 77 24 (.slice none 0 0) 24 rfl Try.underlying77 info24 rfl (by decide) (by omega) v367 y366 y369 _ _ _ (fun k_ => (w.heap.size ≤ k_) ∧ some k_ ≠ (.slice (some ad297) x7_1.length co36 : Value).ownBlock ∧ k_ ≠ gb284) (fun k_ => ((fun k_ => (w.heap.size ≤ k_) ∧ some k_ ≠ (.slice (some ad297) x7_1.length co36 : Value).ownBlock ∧ k_ ≠ gb284)) k_ ∧ some k_ ≠ (v367 : Value).ownBlock) rfl rfl ?aO ?aR (fun _ hk => hk) ?aF ?aB ?aS ?aL ?_; (case aR => exact (by skip; exact Kd.V_F (Kd.V_mono (ok' := (fun k_ => ((fun k_ => (w.heap.size ≤ k_) ∧ some k_ ≠ (.slice (some ad297) x7_1.length co36 : Value).ownBlock ∧ k_ ≠ gb284)) k_ ∧ some k_ ≠ (v367 : Value).ownBlock)) (HO373.out) (fun k_ hk => ⟨⟨hk.1.1, ⟨hk.1.2.2.1, hk.1.2.2.2⟩⟩, hk.2⟩)))); (case aB => exact (xB1 GE284.out HB.out)); (case aF => exact (fun k_ hk => ⟨(Nat.le_trans (below_size (xB1 GE284.out HB.out)) hk), Kd.fresh' (Kd.R_lt (xR HO_70.out)) k_ hk, Kd.freshB (xK BK284.out) k_ hk⟩)); (case aO => exact (by (with_reducible repeat (first | apply Kd.N_alloc | apply Kd.N_drewN | apply Kd.N_drew)); exact HO368.out)); (case aS => exact (below_size (xB1 GE284.out HB.out))); (case aL => have := LMc92.out; omega); intro v375 w101 ho hb hg hat; rw [← Ny374.out] at ho; replace HO_10 := xA (Kd.N_afterv (ok := (fun k_ => (w.heap.size ≤ k_) ∧ some k_ ≠ (.slice (some ad297) x7_1.length co36 : Value).ownBlock ∧ k_ ≠ gb284)) (by (with_reducible repeat (first | apply Kd.N_alloc | apply Kd.N_drewN | apply Kd.N_drew)); exact Kd.N_mono HO_10.out (fun _ hk => ⟨⟨hk.1.1, ⟨hk.1.2.2.1, hk.1.2.2.2⟩⟩, hk.2⟩)) hg hat); replace HO_70 := xA (Kd.R_over' (xR HO_70.out) (Kd.N_typed (by (with_reducible repeat (first | apply Kd.N_alloc | apply Kd.N_drewN | apply Kd.N_drew)); exact HO368.out)) (by decide) hg); replace BK284 := xA (blk_grown (xK BK284.out) hg (Kd.N_ne HO368.out BK284.out (by decide))); replace HO362 := xA (Kd.V_afterv (ok := (fun k_ => (w.heap.size ≤ k_) ∧ some k_ ≠ (.slice (some ad297) x7_1.length co36 : Value).ownBlock ∧ k_ ≠ gb284)) (by (with_reducible repeat (first | apply Kd.V_alloc | apply Kd.V_drewN | apply Kd.V_drew)); exact Kd.V_mono HO362.out (fun _ hk => ⟨⟨hk.1.1, ⟨hk.1.2.2.1, hk.1.2.2.2⟩⟩, hk.2⟩)) hg hat); replace HO373 := xA (Kd.V_afterv (ok := (fun k_ => (w.heap.size ≤ k_) ∧ some k_ ≠ (.slice (some ad297) x7_1.length co36 : Value).ownBlock ∧ k_ ≠ gb284)) (by (with_reducible repeat (first | apply Kd.V_alloc | apply Kd.V_drewN | apply Kd.V_drew)); exact Kd.V_mono HO373.out (fun _ hk => ⟨⟨hk.1.1, ⟨hk.1.2.2.1, hk.1.2.2.2⟩⟩, hk.2⟩)) hg hat); replace HB := xA (hb); have HO376 := xA (ho); clear HO368; clear ho hb hg hat))
          go_roundg k4
          case measure => have := HK1.out; have := HK2.out; have := HK3.out; have := HK4.out; omega
          case rel => exact ⟨(y374), (wrap64 (x72_2 + 1)), xs, H', ⟨by have := HK1.out; have := HK2.out; have := HK3.out; have := HK4.out; omega⟩, ⟨by (with_reducible repeat (first | apply Kd.N_alloc | apply Kd.N_drewN | apply Kd.N_drew)); exact HO376.out⟩, ⟨by (with_reducible repeat (first | apply Kd.R_alloc | apply Kd.R_drewN | apply Kd.R_drew)); exact Kd.R_mono HO_70.out (fun _ hk => hk.1)⟩, ⟨xK BK284.out⟩, ⟨xB1 GE284.out HB.out⟩⟩
         rw [if_pos c61] at H
         have c61b0 : decide (0 < x16_4) = true := decide_eq_true c61
         clear c61
         obtain ⟨ji62, hji62⟩ : ∃ j_ : Int, (wrap64 (x16_4 - 1)) = j_ := ⟨_, rfl⟩
         (first | rw [hji62] at H | simp only [hji62] at H)
         have hji62w : (IntKind.i64.wrap (x16_4 - 1)) = ji62 := (i64_w _).trans hji62
         by_cases c63 : 0 ≤ (ji62)
         rotate_left
         ·rw [if_neg c63] at H
          exact absurd H (by simp)
         rw [if_pos c63] at H
         have c63b0 : decide (0 ≤ (ji62)) = true := decide_eq_true c63
         clear c63
         by_cases c64 : (ji62) < (x10_2.length : Int)
         rotate_left
         ·rw [if_neg c64] at H
          exact absurd H (by simp)
         rw [if_pos c64] at H
         have c64b0 : decide ((ji62) < (x10_2.length : Int)) = true := decide_eq_true c64
         clear c64
         by_cases c65 : 0 < ((rd_L5 x10_2 (ji62)).length : Int)
         rotate_left
         ·rw [if_neg c65] at H
          exact absurd H (by simp)
         rw [if_pos c65] at H
         have c65b0 : decide (0 < ((rd_L5 x10_2 (ji62)).length : Int)) = true := decide_eq_true c65
         have c65b1 : decide (0 < (rd_L5 x10_2 (ji62)).length) = true := decide_eq_true (by omega)
         clear c65
         by_cases c66 : 0 < (y327.length : Int)
         rotate_left
         ·rw [if_neg c66] at H
          exact absurd H (by simp)
         rw [if_pos c66] at H
         have c66b0 : decide (0 < (y327.length : Int)) = true := decide_eq_true c66
         have c66b1 : decide (0 < y327.length) = true := decide_eq_true (by omega)
         clear c66
         by_cases c67 : (rd (rd_L5 x10_2 (ji62)) 0) > (rd y327 0)
         ·rw [if_pos c67] at H
          have c67b0 : decide ((rd y327 0) < (rd (rd_L5 x10_2 (ji62)) 0)) = true := decide_eq_true c67
          clear c67
          have H' := xA H
          clear H
          try go_wp2
          replace HO_10 := xA (Kd.N_drew HO_10.out)
          replace HO_13 := xA (Kd.R_drew HO_13.out)
          replace HO_70 := xA (Kd.R_drew HO_70.out)
          replace BK284 := xA (blk_drew BK284.out)
          replace HB := xA (below_drew1 HB.out)
          have p330 : 0 ≤ ((ji62) : Int) := of_decide_eq_true (by first | (with_reducible assumption) | assumption | (rw [← hji62]; first | (with_reducible assumption) | assumption))
          have q330 : (ji62) < (x10_2.length : Int) := of_decide_eq_true (by first | (with_reducible assumption) | assumption | (rw [← hji62]; first | (with_reducible assumption) | assumption))
          obtain ⟨ad330, A330_0, c330_0, e330, hx330_0, hl330_0, hi330_0⟩ := at_L5 (Kd.N_reads' HO_10.out).2.2 (ji62) p330 q330
          cases e330
          obtain ⟨ce330, hce330, hMe330, hcc330⟩ := Kd.N_get HO_10.out [] (ji62) p330 (by first | exact q330 | exact of_decide_eq_true (by first | (with_reducible assumption) | assumption) | (have e_ := (Kd.N_reads' HO_10.out).1; omega))
          obtain ⟨ua330_0, uc330_0, rfl, ul330_0, ge330_0⟩ := Kd.FK_slice_open hMe330
          have hv330_0 := hcc330 0 _ rfl
          rw [Nat.add_zero, show ((Kd.slice 3 (Kd.int .i64))).sz = 1 from rfl, Nat.mul_one] at hv330_0
          replace hv330_0 := Option.some.inj (hv330_0.symm.trans hx330_0)
          injection hv330_0 with hva_ hvn_ hvc_
          rw [hva_] at ge330_0
          rw [hvc_] at ul330_0
          have HL330_0 := xA (show Kd.V (Kd.int .i64) 3 _ w.heap.size _ _ (rd_L5 x10_2 (ji62)) from Kd.V_mk ul330_0 ge330_0)
          clear hva_ hvn_ hvc_ ge330_0 ul330_0
          clear hcc330 hce330
          have HR330_0 := xA hi330_0
          have HC330_0 := xA hl330_0
          clear hi330_0 hl330_0
          replace p330 := eq_true p330
          replace q330 := eq_true q330
          have p331 : 0 ≤ (0 : Int) := (by omega)
          have q331 : 0 < ((rd_L5 x10_2 (ji62)).length : Int) := of_decide_eq_true (by first | (with_reducible assumption) | assumption | (rw [← hji62]; first | (with_reducible assumption) | assumption))
          obtain ⟨ad331, e331, hx331_0⟩ := Kd.at_int (by repeat (first | (with_reducible exact HR330_0.out) | (with_reducible refine Kd.C_alloc ?_ _) | (with_reducible refine Kd.C_drewN ?_ _) | (with_reducible refine Kd.C_drew ?_) | exact HR330_0.out)) 0 p331 q331
          cases e331
          have qi331 : (0 < (rd_L5 x10_2 (ji62)).length) = True := eq_true (by omega)
          (try rw [show ((0 : Int)).toNat = 0 from rfl] at hx331_0)
          (try rw [Addr.add_zero'] at hx331_0)
          replace p331 := eq_true p331
          replace q331 := eq_true q331
          obtain ⟨Ao69, co69, eo69⟩ := Kd.R_slice HO_13.out
          (first | subst eo69 | (injection eo69 with f1_ f2_ f3_; have f4_ := f1_.symm; have f5_ := f3_.symm; clear f1_ f2_ f3_; subst f4_; subst f5_))
          have p332 : 0 ≤ (0 : Int) := (by omega)
          have q332 : 0 < (y327.length : Int) := of_decide_eq_true (by first | (with_reducible assumption) | assumption)
          obtain ⟨ad332, e332, hx332_0⟩ := Kd.at_int (Kd.R_reads' HO_13.out).2.2 0 p332 q332
          cases e332
          have qi332 : (0 < y327.length) = True := eq_true (by omega)
          (try rw [show ((0 : Int)).toNat = 0 from rfl] at hx332_0)
          (try rw [Addr.add_zero'] at hx332_0)
          replace p332 := eq_true p332
          replace q332 := eq_true q332
          refine start_ (n := 15) (S := fun w' => w'.cell? (ad330.add ((ji62)).toNat) = some (.slice (some ad331) (rd_L5 x10_2 (ji62)).length c330_0) ∧ w'.cell? ad331 = some (.int .i64 (rd (rd_L5 x10_2 (ji62)) 0)) ∧ w'.cell? ad332 = some (.int .i64 (rd y327 0))) (ds := []) x7a11 (by kernel_rfl) rfl rfl ⟨hx330_0, hx331_0, hx332_0⟩ (fun hHeld => ?_); refine with_tabW spec_foCycles.tab27 spec_foCycles.bits27 (fun HT_ HW_ => ?_)
          generalize wr.drew = w68 at HO_10 HO_13 HO_70 BK284 HB HL330_0 HR330_0 hx330_0 hx331_0 hx332_0 hHeld ⊢
          refine xP 0 112 x7a12 ?_
          refine xP 1 113 x7a13 ?_
          refine xP 2 114 x7a14 ?_
          refine xP 3 115 x7a15 ?_
          refine xP 4 116 x7a16 ?_
          refine xP 5 117 x7a17 ?_
          refine xP 6 118 x7a18 ?_
          refine xP 10 122 x7a27 ?_
          refine xP 11 123 x7a28 ?_
          refine xT3 hHeld 7 119 x7a29 ?_
          refine xP 8 120 x7a30 ?_
          refine xT3 hHeld 9 121 x7a23 ?_
          refine xT3 hHeld 12 124 x7a24 ?_
          refine xP 13 125 x7a25 ?_
          refine xP 14 126 x7a26 ?_
          refine xDn ?_
          try go_wp2
          go_roundg k4
          case measure => have := HK1.out; have := HK2.out; have := HK3.out; have := HK4.out; omega
          case rel => exact ⟨(ji62), (by first | rfl | (simp; done) | (simp only [← hji62] <;> (first | rfl | simp)) | (simp [*]; done)), H', ⟨by have := HK1.out; have := HK2.out; have := HK3.out; have := HK4.out; omega⟩, ⟨by (with_reducible repeat (first | apply Kd.N_alloc | apply Kd.N_drewN | apply Kd.N_drew)); exact HO_10.out⟩, ⟨xR HO_13.out⟩, ⟨xR HO_70.out⟩, ⟨xK BK284.out⟩, ⟨xB1 GE284.out HB.out⟩⟩
         rw [if_neg c67] at H
         have c67b0 : decide ((rd y327 0) < (rd (rd_L5 x10_2 (ji62)) 0)) = false := decide_eq_false c67
         clear c67
         obtain ⟨y333, hy333⟩ : ∃ y_ : List (List Int), y_ = (([] : List (List Int))) := ⟨_, rfl⟩
         replace H : (if 0 ≤ x16_4 then (if x16_4 ≤ (x10_2.length : Int) then ((some (x10_2.take (x16_4 : Int).toNat : List (List Int))).bind fun y336 => (if y333.length + y336.length < 5864062014805 then ((some (y333 ++ y336 : List (List Int))).bind fun y341 => (if y341.length < 5864062014805 then ((some (y341 ++ [y327] : List (List Int))).bind fun y344 => ((some (x10_2.drop (x16_4 : Int).toNat : List (List Int))).bind fun y347 => (if y344.length + y347.length < 5864062014805 then (spec_foCycles.l2 k4 a1 (y344 ++ y347) x7_1 (x7_1.length : Int) (wrap64 (x72_2 + 1)) a0_0 a0_1 a0_2 a0_3 a0_4) else (none)))) else (none))) else (none))) else (none)) else (none)) = some r := by first | (rw [hy333]; with_reducible exact H) | (have H2_ := (Option.bind_some _ _).symm.trans H; rw [hy333]; with_reducible exact H2_) | (have H2_ := (Option.bind_some _ _).symm.trans H; with_reducible exact H2_) | with_reducible exact H | (rw [hy333]; exact H) | exact H
         have Ny333 := xA hy333
         clear hy333
         by_cases c70 : 0 ≤ x16_4
         rotate_left
         ·rw [if_neg c70] at H
          exact absurd H (by simp)
         rw [if_pos c70] at H
         have c70b0 := eq_true c70
         have c70b1 : decide (0 ≤ x16_4) = true := decide_eq_true c70
         clear c70
         by_cases c71 : x16_4 ≤ (x10_2.length : Int)
         rotate_left
         ·rw [if_neg c71] at H
          exact absurd H (by simp)
         rw [if_pos c71] at H
         have c71b0 := eq_true c71
         have c71b1 : decide (x16_4 ≤ (x10_2.length : Int)) = true := decide_eq_true c71
         clear c71
         obtain ⟨y336, hy336⟩ : ∃ y_ : List (List Int), y_ = (x10_2.take (x16_4 : Int).toNat) := ⟨_, rfl⟩
         replace H : (if y333.length + y336.length < 5864062014805 then ((some (y333 ++ y336 : List (List Int))).bind fun y341 => (if y341.length < 5864062014805 then ((some (y341 ++ [y327] : List (List Int))).bind fun y344 => ((some (x10_2.drop (x16_4 : Int).toNat : List (List Int))).bind fun y347 => (if y344.length + y347.length < 5864062014805 then (spec_foCycles.l2 k4 a1 (y344 ++ y347) x7_1 (x7_1.length : Int) (wrap64 (x72_2 + 1)) a0_0 a0_1 a0_2 a0_3 a0_4) else (none)))) else (none))) else (none)) = some r := by first | (rw [hy336]; with_reducible exact H) | (have H2_ := (Option.bind_some _ _).symm.trans H; rw [hy336]; with_reducible exact H2_) | (have H2_ := (Option.bind_some _ _).symm.trans H; with_reducible exact H2_) | with_reducible exact H | (rw [hy336]; exact H) | exact H
         have Ny336 := xA hy336
         clear hy336
         by_cases c72 : y333.length + y336.length < 5864062014805
         rotate_left
         ·rw [if_neg c72] at H
          exact absurd H (by simp)
         rw [if_pos c72] at H
         have LMc72 := xA c72
         clear c72
         obtain ⟨y341, hy341⟩ : ∃ y_ : List (List Int), y_ = (y333 ++ y336) := ⟨_, rfl⟩
         replace H : (if y341.length < 5864062014805 then ((some (y341 ++ [y327] : List (List Int))).bind fun y344 => ((some (x10_2.drop (x16_4 : Int).toNat : List (List Int))).bind fun y347 => (if y344.length + y347.length < 5864062014805 then (spec_foCycles.l2 k4 a1 (y344 ++ y347) x7_1 (x7_1.length : Int) (wrap64 (x72_2 + 1)) a0_0 a0_1 a0_2 a0_3 a0_4) else (none)))) else (none)) = some r := by first | (rw [hy341]; with_reducible exact H) | (have H2_ := (Option.bind_some _ _).symm.trans H; rw [hy341]; with_reducible exact H2_) | (have H2_ := (Option.bind_some _ _).symm.trans H; with_reducible exact H2_) | with_reducible exact H | (rw [hy341]; exact H) | exact H
         have Ny341 := xA hy341
         clear hy341
         by_cases c73 : y341.length < 5864062014805
         rotate_left
         ·rw [if_neg c73] at H
          exact absurd H (by simp)
         rw [if_pos c73] at H
         have LMc73 := xA c73
         clear c73
         obtain ⟨y344, hy344⟩ : ∃ y_ : List (List Int), y_ = (y341 ++ [y327]) := ⟨_, rfl⟩
         replace H : ((some (x10_2.drop (x16_4 : Int).toNat : List (List Int))).bind fun y347 => (if y344.length + y347.length < 5864062014805 then (spec_foCycles.l2 k4 a1 (y344 ++ y347) x7_1 (x7_1.length : Int) (wrap64 (x72_2 + 1)) a0_0 a0_1 a0_2 a0_3 a0_4) else (none))) = some r := by first | (rw [hy344]; with_reducible exact H) | (have H2_ := (Option.bind_some _ _).symm.trans H; rw [hy344]; with_reducible exact H2_) | (have H2_ := (Option.bind_some _ _).symm.trans H; with_reducible exact H2_) | with_reducible exact H | (rw [hy344]; exact H) | exact H
         have Ny344 := xA hy344
         clear hy344
         have c74b0 := eq_true (of_decide_eq_true (by first | (with_reducible assumption) | assumption) : 0 ≤ x16_4)
         have c75b0 := eq_true (of_decide_eq_true (by first | (with_reducible assumption) | assumption) : x16_4 ≤ (x10_2.length : Int))
         obtain ⟨y347, hy347⟩ : ∃ y_ : List (List Int), y_ = (x10_2.drop (x16_4 : Int).toNat) := ⟨_, rfl⟩
         replace H : (if y344.length + y347.length < 5864062014805 then (spec_foCycles.l2 k4 a1 (y344 ++ y347) x7_1 (x7_1.length : Int) (wrap64 (x72_2 + 1)) a0_0 a0_1 a0_2 a0_3 a0_4) else (none)) = some r := by first | (rw [hy347]; with_reducible exact H) | (have H2_ := (Option.bind_some _ _).symm.trans H; rw [hy347]; with_reducible exact H2_) | (have H2_ := (Option.bind_some _ _).symm.trans H; with_reducible exact H2_) | with_reducible exact H | (rw [hy347]; exact H) | exact H
         have Ny347 := xA hy347
         clear hy347
         by_cases c76 : y344.length + y347.length < 5864062014805
         rotate_left
         ·rw [if_neg c76] at H
          exact absurd H (by simp)
         rw [if_pos c76] at H
         have LMc76 := xA c76
         clear c76
         obtain ⟨y352, hy352⟩ : ∃ y_ : List (List Int), y_ = (y344 ++ y347) := ⟨_, rfl⟩
         replace H : (spec_foCycles.l2 k4 a1 y352 x7_1 (x7_1.length : Int) (wrap64 (x72_2 + 1)) a0_0 a0_1 a0_2 a0_3 a0_4) = some r := by first | (rw [hy352]; with_reducible exact H) | (have H2_ := (Option.bind_some _ _).symm.trans H; rw [hy352]; with_reducible exact H2_) | (have H2_ := (Option.bind_some _ _).symm.trans H; with_reducible exact H2_) | with_reducible exact H | (rw [hy352]; exact H) | exact H
         have Ny352 := xA hy352
         clear hy352
         have H' := xA H
         clear H
         try go_wp2
         replace HO_10 := xA (Kd.N_drew HO_10.out)
         replace HO_13 := xA (Kd.R_drew HO_13.out)
         replace HO_70 := xA (Kd.R_drew HO_70.out)
         replace BK284 := xA (blk_drew BK284.out)
         replace HB := xA (below_drew1 HB.out)
         have p330 : 0 ≤ ((ji62) : Int) := of_decide_eq_true (by first | (with_reducible assumption) | assumption | (rw [← hji62]; first | (with_reducible assumption) | assumption))
         have q330 : (ji62) < (x10_2.length : Int) := of_decide_eq_true (by first | (with_reducible assumption) | assumption | (rw [← hji62]; first | (with_reducible assumption) | assumption))
         obtain ⟨ad330, A330_0, c330_0, e330, hx330_0, hl330_0, hi330_0⟩ := at_L5 (Kd.N_reads' HO_10.out).2.2 (ji62) p330 q330
         cases e330
         obtain ⟨ce330, hce330, hMe330, hcc330⟩ := Kd.N_get HO_10.out [] (ji62) p330 (by first | exact q330 | exact of_decide_eq_true (by first | (with_reducible assumption) | assumption) | (have e_ := (Kd.N_reads' HO_10.out).1; omega))
         obtain ⟨ua330_0, uc330_0, rfl, ul330_0, ge330_0⟩ := Kd.FK_slice_open hMe330
         have hv330_0 := hcc330 0 _ rfl
         rw [Nat.add_zero, show ((Kd.slice 3 (Kd.int .i64))).sz = 1 from rfl, Nat.mul_one] at hv330_0
         replace hv330_0 := Option.some.inj (hv330_0.symm.trans hx330_0)
         injection hv330_0 with hva_ hvn_ hvc_
         rw [hva_] at ge330_0
         rw [hvc_] at ul330_0
         have HL330_0 := xA (show Kd.V (Kd.int .i64) 3 _ w.heap.size _ _ (rd_L5 x10_2 (ji62)) from Kd.V_mk ul330_0 ge330_0)
         clear hva_ hvn_ hvc_ ge330_0 ul330_0
         clear hcc330 hce330
         have HR330_0 := xA hi330_0
         have HC330_0 := xA hl330_0
         clear hi330_0 hl330_0
         replace p330 := eq_true p330
         replace q330 := eq_true q330
         have p331 : 0 ≤ (0 : Int) := (by omega)
         have q331 : 0 < ((rd_L5 x10_2 (ji62)).length : Int) := of_decide_eq_true (by first | (with_reducible assumption) | assumption | (rw [← hji62]; first | (with_reducible assumption) | assumption))
         obtain ⟨ad331, e331, hx331_0⟩ := Kd.at_int (by repeat (first | (with_reducible exact HR330_0.out) | (with_reducible refine Kd.C_alloc ?_ _) | (with_reducible refine Kd.C_drewN ?_ _) | (with_reducible refine Kd.C_drew ?_) | exact HR330_0.out)) 0 p331 q331
         cases e331
         have qi331 : (0 < (rd_L5 x10_2 (ji62)).length) = True := eq_true (by omega)
         (try rw [show ((0 : Int)).toNat = 0 from rfl] at hx331_0)
         (try rw [Addr.add_zero'] at hx331_0)
         replace p331 := eq_true p331
         replace q331 := eq_true q331
         obtain ⟨Ao78, co78, eo78⟩ := Kd.R_slice HO_13.out
         (first | subst eo78 | (injection eo78 with f1_ f2_ f3_; have f4_ := f1_.symm; have f5_ := f3_.symm; clear f1_ f2_ f3_; subst f4_; subst f5_))
         have p332 : 0 ≤ (0 : Int) := (by omega)
         have q332 : 0 < (y327.length : Int) := of_decide_eq_true (by first | (with_reducible assumption) | assumption)
         obtain ⟨ad332, e332, hx332_0⟩ := Kd.at_int (Kd.R_reads' HO_13.out).2.2 0 p332 q332
         cases e332
         have qi332 : (0 < y327.length) = True := eq_true (by omega)
         (try rw [show ((0 : Int)).toNat = 0 from rfl] at hx332_0)
         (try rw [Addr.add_zero'] at hx332_0)
         replace p332 := eq_true p332
         replace q332 := eq_true q332
         refine start_ (n := 15) (S := fun w' => w'.cell? (ad330.add ((ji62)).toNat) = some (.slice (some ad331) (rd_L5 x10_2 (ji62)).length c330_0) ∧ w'.cell? ad331 = some (.int .i64 (rd (rd_L5 x10_2 (ji62)) 0)) ∧ w'.cell? ad332 = some (.int .i64 (rd y327 0))) (ds := []) x7a11 (by kernel_rfl) rfl rfl ⟨hx330_0, hx331_0, hx332_0⟩ (fun hHeld => ?_); refine with_tabW spec_foCycles.tab27 spec_foCycles.bits27 (fun HT_ HW_ => ?_)
         generalize wr.drew = w77 at HO_10 HO_13 HO_70 BK284 HB HL330_0 HR330_0 hx330_0 hx331_0 hx332_0 hHeld ⊢
         refine xP 0 112 x7a12 ?_
         refine xP 1 113 x7a13 ?_
         refine xP 2 114 x7a14 ?_
         refine xP 3 115 x7a15 ?_
         refine xP 4 116 x7a16 ?_
         refine xP 5 117 x7a17 ?_
         refine xP 6 118 x7a18 ?_
         refine xP 10 122 x7a27 ?_
         refine xP 11 123 x7a28 ?_
         refine xT3 hHeld 7 119 x7a29 ?_
         refine xP 8 120 x7a30 ?_
         refine xT3 hHeld 9 121 x7a23 ?_
         refine xT3 hHeld 12 124 x7a24 ?_
         refine xP 13 125 x7a25 ?_
         refine xP 14 126 x7a26 ?_
         refine xDn ?_
         try go_wp2_with (first | ((with_reducible refine gate_dst (N := 129) rfl ?_); refine Kd.N_lit (Kd.slice 3 (Kd.int .i64)) _ 24 ?hg (N' := 129) ?hd (xs := ([] : List (List Int))) (inner := []) (ok := (fun k_ => (w.heap.size ≤ k_) ∧ some k_ ≠ (.slice (some ad330) x10_2.length co60 : Value).ownBlock ∧ some k_ ≠ (.slice (some ad332) y327.length co78 : Value).ownBlock ∧ some k_ ≠ (.slice (some ad297) x7_1.length co36 : Value).ownBlock ∧ k_ ≠ gb284)) (okp := (fun k_ => (w.heap.size ≤ k_) ∧ some k_ ≠ (.slice (some ad330) x10_2.length co60 : Value).ownBlock ∧ some k_ ≠ (.slice (some ad332) y327.length co78 : Value).ownBlock ∧ some k_ ≠ (.slice (some ad297) x7_1.length co36 : Value).ownBlock ∧ k_ ≠ gb284)) ?hr ?hp (fun _ hk => hk) ((show ∀ k_, w77.heap.size ≤ k_ → (fun k_ => (w.heap.size ≤ k_) ∧ some k_ ≠ (.slice (some ad330) x10_2.length co60 : Value).ownBlock ∧ some k_ ≠ (.slice (some ad332) y327.length co78 : Value).ownBlock ∧ some k_ ≠ (.slice (some ad297) x7_1.length co36 : Value).ownBlock ∧ k_ ≠ gb284) k_ from fun k_ hk => ⟨(Nat.le_trans (below_size (xB1 GE284.out HB.out)) hk), Kd.fresh' (Kd.N_lt (by (with_reducible repeat (first | apply Kd.N_alloc | apply Kd.N_drewN | apply Kd.N_drew)); exact HO_10.out)) k_ hk, Kd.fresh' (Kd.R_lt (xR HO_13.out)) k_ hk, Kd.fresh' (Kd.R_lt (xR HO_70.out)) k_ hk, Kd.freshB (xK BK284.out) k_ hk⟩) _ (Nat.le_refl _)) (Below.refl _ _) (Nat.le_refl _) (by simp) ?_; (case hd => rfl); (case hg => rfl); (case hr => first | (go_simp; done) | (go_simp; rfl)); (case hp => exact (Reps.none _ _)); intro v334 w79 ho80 hb hg_ hnew_; clear hg_ hnew_; (first | rw [← Ny333.out] at ho80 | (simp only [Int.reduceToNat] at ho80; rw [← Ny333.out] at ho80)); replace HO_10 := xA (Kd.N_elder' (by (with_reducible repeat (first | apply Kd.N_alloc | apply Kd.N_drewN | apply Kd.N_drew)); exact HO_10.out) (Kd.N_base ho80) hb); replace HO_13 := xA (Kd.R_below (xR HO_13.out) hb); replace HO_70 := xA (Kd.R_below (xR HO_70.out) hb); replace HL330_0 := xA (Kd.V_elder' (by (with_reducible repeat (first | apply Kd.V_alloc | apply Kd.V_drewN | apply Kd.V_drew)); exact HL330_0.out) (Kd.N_base ho80) hb); have HO335 := xA (Kd.N_lower ho80 (below_size (xB1 GE284.out HB.out))); replace BK284 := xkb BK284 hb; replace HR330_0 := xA (Kd.C_below (by repeat (first | (with_reducible exact HR330_0.out) | (with_reducible refine Kd.C_alloc ?_ _) | (with_reducible refine Kd.C_drewN ?_ _) | (with_reducible refine Kd.C_drew ?_) | exact HR330_0.out)) hb); replace HB := xA (below_step (xB1 GE284.out HB.out) hb); clear hb ho80; have q81 : (x16_4 : Int) ≤ ((x10_2.length : Int) : Int) := of_decide_eq_true (by first | (with_reducible assumption) | assumption); obtain ⟨i081, hi081, _, hsz81, _⟩ := info_parts info24; have hroom81 : x10_2.length ≤ co60 := (Kd.N_reads' HO_10.out).2.1; have hC81 : Kd.F (Kd.slice 3 (Kd.int .i64)) _ _ (some ad330) x10_2.length x10_2 := (Kd.V_at (base := w.heap.size) (Kd.N_V HO_10.out)).2.2; have hcut81 := cut_to (P := Try.prog) 77 24 .i64 Try.underlying77 hi081 (some ad330) x10_2.length co60 x16_4 (of_decide_eq_true (by first | (with_reducible assumption) | assumption)) q81 hroom81; have hr81 := Kd.F_take (m := (x16_4 : Int).toNat) hC81 (by omega); have hy81 : y336.length = (x16_4 : Int).toNat := (by rw [Ny336.out, List.length_take]; omega); rw [← Ny336.out] at hr81; rw [← hy81] at hcut81; have HO340 := xA (show Kd.V (Kd.slice 3 (Kd.int .i64)) 24 _ w.heap.size _ (.slice (some ad330) y336.length co60) y336 from Kd.V_mk (by omega) hr81); have HC340 := xA (show y336.length ≤ co60 from by omega); clear hr81 hC81 hroom81 hi081 hsz81; have KY81 := xA hy81; clear hy81; replace q81 := eq_true q81) | ((with_reducible refine gate_builtin (b := .append) (xs := #[.tmp 129, .tmp 132]) rfl ?_); at_builtin; refine Kd.N_append_rows (Kd.slice 3 (Kd.int .i64)) (w0 := w) w.heap.size rfl (.tmp 129) (.tmp 132) 77 24 (.slice none 0 0) 24 rfl Try.underlying77 info24 rfl (by decide) (by omega) v334 y333 y336 _ _ _ (fun k_ => (w.heap.size ≤ k_) ∧ some k_ ≠ (.slice (some ad332) y327.length co78 : Value).ownBlock ∧ some k_ ≠ (.slice (some ad297) x7_1.length co36 : Value).ownBlock ∧ k_ ≠ gb284) (fun k_ => ((fun k_ => (w.heap.size ≤ k_) ∧ some k_ ≠ (.slice (some ad332) y327.length co78 : Value).ownBlock ∧ some k_ ≠ (.slice (some ad297) x7_1.length co36 : Value).ownBlock ∧ k_ ≠ gb284)) k_ ∧ some k_ ≠ (v334 : Value).ownBlock) rfl rfl ?aO ?aR (fun _ hk => hk) ?aF ?aB ?aS ?aL ?_; (case aR => exact (by skip; exact Kd.V_F (Kd.V_mono (ok' := (fun k_ => ((fun k_ => (w.heap.size ≤ k_) ∧ some k_ ≠ (.slice (some ad332) y327.length co78 : Value).ownBlock ∧ some k_ ≠ (.slice (some ad297) x7_1.length co36 : Value).ownBlock ∧ k_ ≠ gb284)) k_ ∧ some k_ ≠ (v334 : Value).ownBlock)) (HO340.out) (fun k_ hk => ⟨⟨hk.1.1, ⟨hk.1.2.1, ⟨hk.1.2.2.1, hk.1.2.2.2⟩⟩⟩, hk.2⟩)))); (case aB => exact (xB1 GE284.out HB.out)); (case aF => exact (fun k_ hk => ⟨(Nat.le_trans (below_size (xB1 GE284.out HB.out)) hk), Kd.fresh' (Kd.R_lt (xR HO_13.out)) k_ hk, Kd.fresh' (Kd.R_lt (xR HO_70.out)) k_ hk, Kd.freshB (xK BK284.out) k_ hk⟩)); (case aO => exact (by (with_reducible repeat (first | apply Kd.N_alloc | apply Kd.N_drewN | apply Kd.N_drew)); exact Kd.N_mono HO335.out (fun _ hk => ⟨hk.1, ⟨hk.2.2.1, ⟨hk.2.2.2.1, hk.2.2.2.2⟩⟩⟩))); (case aS => exact (below_size (xB1 GE284.out HB.out))); (case aL => have := LMc72.out; omega); intro v342 w82 ho hb hg hat; rw [← Ny341.out] at ho; replace HO_10 := xA (Kd.N_afterv (ok := (fun k_ => (w.heap.size ≤ k_) ∧ some k_ ≠ (.slice (some ad332) y327.length co78 : Value).ownBlock ∧ some k_ ≠ (.slice (some ad297) x7_1.length co36 : Value).ownBlock ∧ k_ ≠ gb284)) (by (with_reducible repeat (first | apply Kd.N_alloc | apply Kd.N_drewN | apply Kd.N_drew)); exact HO_10.out) hg hat); replace HO_13 := xA (Kd.R_over' (xR HO_13.out) (Kd.N_typed (by (with_reducible repeat (first | apply Kd.N_alloc | apply Kd.N_drewN | apply Kd.N_drew)); exact HO335.out)) (by decide) hg); replace HO_70 := xA (Kd.R_over' (xR HO_70.out) (Kd.N_typed (by (with_reducible repeat (first | apply Kd.N_alloc | apply Kd.N_drewN | apply Kd.N_drew)); exact HO335.out)) (by decide) hg); replace BK284 := xA (blk_grown (xK BK284.out) hg (Kd.N_ne HO335.out BK284.out (by decide))); replace HL330_0 := xA (Kd.V_afterv (ok := (fun k_ => (w.heap.size ≤ k_) ∧ some k_ ≠ (.slice (some ad330) x10_2.length co60 : Value).ownBlock ∧ some k_ ≠ (.slice (some ad332) y327.length co78 : Value).ownBlock ∧ some k_ ≠ (.slice (some ad297) x7_1.length co36 : Value).ownBlock ∧ k_ ≠ gb284)) (by (with_reducible repeat (first | apply Kd.V_alloc | apply Kd.V_drewN | apply Kd.V_drew)); exact Kd.V_mono HL330_0.out (fun _ hk => ⟨⟨hk.1.1.1, ⟨hk.1.2, ⟨hk.1.1.2.1, ⟨hk.1.1.2.2.1, hk.1.1.2.2.2⟩⟩⟩⟩, hk.2⟩)) hg hat); replace HO340 := xA (Kd.V_afterv (ok := (fun k_ => (w.heap.size ≤ k_) ∧ some k_ ≠ (.slice (some ad332) y327.length co78 : Value).ownBlock ∧ some k_ ≠ (.slice (some ad297) x7_1.length co36 : Value).ownBlock ∧ k_ ≠ gb284)) (by (with_reducible repeat (first | apply Kd.V_alloc | apply Kd.V_drewN | apply Kd.V_drew)); exact HO340.out) hg hat); replace HB := xA (hb); have HO343 := xA (ho); clear HO335; clear ho hb hg hat) | ((with_reducible refine gate_builtin (b := .append) (xs := #[.tmp 133, .tmp 135]) rfl ?_); at_builtin; refine Kd.N_append (Kd.slice 3 (Kd.int .i64)) (w0 := w) w.heap.size rfl (.tmp 133) (.tmp 135) 77 24 (.slice none 0 0) 24 rfl Try.underlying77 info24 rfl (by decide) (by omega) v342 y341 y327 [.slice (some ad332) y327.length co78] (fun k_ => (w.heap.size ≤ k_) ∧ some k_ ≠ (.slice (some ad297) x7_1.length co36 : Value).ownBlock ∧ k_ ≠ gb284) (fun k_ => ((fun k_ => (w.heap.size ≤ k_) ∧ some k_ ≠ (.slice (some ad297) x7_1.length co36 : Value).ownBlock ∧ k_ ≠ gb284)) k_ ∧ some k_ ≠ (v342 : Value).ownBlock) rfl rfl ?aP (fun _ hk => hk) ?aF ?aO ?aB ?aS ?aL ?_; (case aP => exact (Kd.FK_slice_mk (Kd.R_reads' (Kd.R_mono (ok' := (fun k_ => ((fun k_ => (w.heap.size ≤ k_) ∧ some k_ ≠ (.slice (some ad297) x7_1.length co36 : Value).ownBlock ∧ k_ ≠ gb284)) k_ ∧ some k_ ≠ (v342 : Value).ownBlock)) (Kd.R_types (Kd.R_apart' (HO_13.out) (Kd.N_typed HO343.out) (by decide)) BK284.out (by decide)) (fun k_ hk => ⟨⟨hk.1.1.1, ⟨hk.1.1.2, hk.2⟩⟩, hk.1.2⟩))).2.1 (Kd.R_F (Kd.R_mono (ok' := (fun k_ => ((fun k_ => (w.heap.size ≤ k_) ∧ some k_ ≠ (.slice (some ad297) x7_1.length co36 : Value).ownBlock ∧ k_ ≠ gb284)) k_ ∧ some k_ ≠ (v342 : Value).ownBlock)) (Kd.R_types (Kd.R_apart' (HO_13.out) (Kd.N_typed HO343.out) (by decide)) BK284.out (by decide)) (fun k_ hk => ⟨⟨hk.1.1.1, ⟨hk.1.1.2, hk.2⟩⟩, hk.1.2⟩))))); (case aB => exact (xB1 GE284.out HB.out)); (case aF => exact (fun k_ hk => ⟨(Nat.le_trans (below_size (xB1 GE284.out HB.out)) hk), Kd.fresh' (Kd.R_lt (xR HO_70.out)) k_ hk, Kd.freshB (xK BK284.out) k_ hk⟩)); (case aO => exact (by (with_reducible repeat (first | apply Kd.N_alloc | apply Kd.N_drewN | apply Kd.N_drew)); exact Kd.N_mono HO343.out (fun _ hk => ⟨hk.1, ⟨hk.2.2.1, hk.2.2.2⟩⟩))); (case aS => exact (below_size (xB1 GE284.out HB.out))); (case aL => have := LMc73.out; omega); intro v345 w83 ho hb hg hat; rw [← Ny344.out] at ho; replace HO_10 := xA (Kd.N_afterv (ok := (fun k_ => (w.heap.size ≤ k_) ∧ some k_ ≠ (.slice (some ad332) y327.length co78 : Value).ownBlock ∧ some k_ ≠ (.slice (some ad297) x7_1.length co36 : Value).ownBlock ∧ k_ ≠ gb284)) (by (with_reducible repeat (first | apply Kd.N_alloc | apply Kd.N_drewN | apply Kd.N_drew)); exact HO_10.out) hg hat); replace HO_70 := xA (Kd.R_over' (xR HO_70.out) (Kd.N_typed (by (with_reducible repeat (first | apply Kd.N_alloc | apply Kd.N_drewN | apply Kd.N_drew)); exact HO343.out)) (by decide) hg); replace BK284 := xA (blk_grown (xK BK284.out) hg (Kd.N_ne HO343.out BK284.out (by decide))); replace HL330_0 := xA (Kd.V_afterv (ok := (fun k_ => (w.heap.size ≤ k_) ∧ some k_ ≠ (.slice (some ad330) x10_2.length co60 : Value).ownBlock ∧ some k_ ≠ (.slice (some ad332) y327.length co78 : Value).ownBlock ∧ some k_ ≠ (.slice (some ad297) x7_1.length co36 : Value).ownBlock ∧ k_ ≠ gb284)) (by (with_reducible repeat (first | apply Kd.V_alloc | apply Kd.V_drewN | apply Kd.V_drew)); exact HL330_0.out) hg hat); replace HO340 := xA (Kd.V_afterv (ok := (fun k_ => (w.heap.size ≤ k_) ∧ some k_ ≠ (.slice (some ad332) y327.length co78 : Value).ownBlock ∧ some k_ ≠ (.slice (some ad297) x7_1.length co36 : Value).ownBlock ∧ k_ ≠ gb284)) (by (with_reducible repeat (first | apply Kd.V_alloc | apply Kd.V_drewN | apply Kd.V_drew)); exact HO340.out) hg hat); replace HB := xA (hb); have HO346 := xA (ho); clear HO343 HO_13; clear ho hb hg hat; have q84 : (x16_4 : Int) ≤ ((x10_2.length : Int) : Int) := of_decide_eq_true (by first | (with_reducible assumption) | assumption); obtain ⟨i084, hi084, _, hsz84, _⟩ := info_parts info24; have hroom84 : x10_2.length ≤ co60 := (Kd.N_reads' HO_10.out).2.1; have hC84 : Kd.F (Kd.slice 3 (Kd.int .i64)) _ _ (some ad330) x10_2.length x10_2 := (Kd.V_at (base := w.heap.size) (Kd.N_V HO_10.out)).2.2; have q084 : (0 : Int) ≤ (x16_4 : Int) := of_decide_eq_true (by first | (with_reducible assumption) | assumption); have hcut84 := cut_from (P := Try.prog) 77 24 .i64 Try.underlying77 hi084 1 hsz84 (some ad330) x10_2.length co60 x16_4 q084 q84; have hr84 := Kd.F_cut (m := (x16_4 : Int).toNat) (c := co60) hC84 (by omega) hroom84; obtain ⟨A84, hA84⟩ : ∃ A1, A1 = (if co60 = (x16_4 : Int).toNat then (some ad330) else ((some ad330) : Option Addr).map (·.add ((x16_4 : Int).toNat * 1))) := ⟨_, rfl⟩; obtain ⟨c84, hc84⟩ : ∃ c1, c1 = co60 - (x16_4 : Int).toNat := ⟨_, rfl⟩; have hy84 : y347.length = x10_2.length - (x16_4 : Int).toNat := (by rw [Ny347.out, List.length_drop] <;> omega); rw [show (x10_2).drop (x16_4 : Int).toNat = y347 from Ny347.out.symm] at hr84; replace hr84 : Kd.F (Kd.slice 3 (Kd.int .i64)) _ _ A84 y347.length y347 := (by rw [hA84]; exact hr84); rw [← hy84, ← hA84, ← hc84] at hcut84; have HO351 := xA (show Kd.V (Kd.slice 3 (Kd.int .i64)) 24 _ w.heap.size _ (.slice A84 y347.length c84) y347 from Kd.V_mk (by rw [hy84, hc84]; exact Nat.sub_le_sub_right hroom84 _) hr84); have HC351 := xA (show y347.length ≤ c84 from by rw [hy84, hc84]; exact Nat.sub_le_sub_right hroom84 _); clear hr84 hC84 hroom84 hi084 hsz84 hc84; have KY84 := xA hy84; have KA84 := xA hA84; clear hy84 hA84; replace q84 := eq_true q84) | ((with_reducible refine gate_builtin (b := .append) (xs := #[.tmp 137, .tmp 140]) rfl ?_); at_builtin; refine Kd.N_append_rows (Kd.slice 3 (Kd.int .i64)) (w0 := w) w.heap.size rfl (.tmp 137) (.tmp 140) 77 24 (.slice none 0 0) 24 rfl Try.underlying77 info24 rfl (by decide) (by omega) v345 y344 y347 _ _ _ (fun k_ => (w.heap.size ≤ k_) ∧ some k_ ≠ (.slice (some ad297) x7_1.length co36 : Value).ownBlock ∧ k_ ≠ gb284) (fun k_ => ((fun k_ => (w.heap.size ≤ k_) ∧ some k_ ≠ (.slice (some ad297) x7_1.length co36 : Value).ownBlock ∧ k_ ≠ gb284)) k_ ∧ some k_ ≠ (v345 : Value).ownBlock) rfl rfl ?aO ?aR (fun _ hk => hk) ?aF ?aB ?aS ?aL ?_; (case aR => exact (by skip; exact Kd.V_F (Kd.V_mono (ok' := (fun k_ => ((fun k_ => (w.heap.size ≤ k_) ∧ some k_ ≠ (.slice (some ad297) x7_1.length co36 : Value).ownBlock ∧ k_ ≠ gb284)) k_ ∧ some k_ ≠ (v345 : Value).ownBlock)) (HO351.out) (fun k_ hk => ⟨⟨hk.1.1, ⟨hk.1.2.2.1, hk.1.2.2.2⟩⟩, hk.2⟩)))); (case aB => exact (xB1 GE284.out HB.out)); (case aF => exact (fun k_ hk => ⟨(Nat.le_trans (below_size (xB1 GE284.out HB.out)) hk), Kd.fresh' (Kd.R_lt (xR HO_70.out)) k_ hk, Kd.freshB (xK BK284.out) k_ hk⟩)); (case aO => exact (by (with_reducible repeat (first | apply Kd.N_alloc | apply Kd.N_drewN | apply Kd.N_drew)); exact HO346.out)); (case aS => exact (below_size (xB1 GE284.out HB.out))); (case aL => have := LMc76.out; omega); intro v353 w85 ho hb hg hat; rw [← Ny352.out] at ho; replace HO_10 := xA (Kd.N_afterv (ok := (fun k_ => (w.heap.size ≤ k_) ∧ some k_ ≠ (.slice (some ad297) x7_1.length co36 : Value).ownBlock ∧ k_ ≠ gb284)) (by (with_reducible repeat (first | apply Kd.N_alloc | apply Kd.N_drewN | apply Kd.N_drew)); exact Kd.N_mono HO_10.out (fun _ hk => ⟨⟨hk.1.1, ⟨hk.1.2.2.1, hk.1.2.2.2⟩⟩, hk.2⟩)) hg hat); replace HO_70 := xA (Kd.R_over' (xR HO_70.out) (Kd.N_typed (by (with_reducible repeat (first | apply Kd.N_alloc | apply Kd.N_drewN | apply Kd.N_drew)); exact HO346.out)) (by decide) hg); replace BK284 := xA (blk_grown (xK BK284.out) hg (Kd.N_ne HO346.out BK284.out (by decide))); replace HL330_0 := xA (Kd.V_afterv (ok := (fun k_ => (w.heap.size ≤ k_) ∧ some k_ ≠ (.slice (some ad330) x10_2.length co60 : Value).ownBlock ∧ some k_ ≠ (.slice (some ad297) x7_1.length co36 : Value).ownBlock ∧ k_ ≠ gb284)) (by (with_reducible repeat (first | apply Kd.V_alloc | apply Kd.V_drewN | apply Kd.V_drew)); exact Kd.V_mono HL330_0.out (fun _ hk => ⟨⟨hk.1.1, ⟨hk.1.2.1, ⟨hk.1.2.2.2.1, hk.1.2.2.2.2⟩⟩⟩, hk.2⟩)) hg hat); replace HO340 := xA (Kd.V_afterv (ok := (fun k_ => (w.heap.size ≤ k_) ∧ some k_ ≠ (.slice (some ad297) x7_1.length co36 : Value).ownBlock ∧ k_ ≠ gb284)) (by (with_reducible repeat (first | apply Kd.V_alloc | apply Kd.V_drewN | apply Kd.V_drew)); exact Kd.V_mono HO340.out (fun _ hk => ⟨⟨hk.1.1, ⟨hk.1.2.2.1, hk.1.2.2.2⟩⟩, hk.2⟩)) hg hat); replace HO351 := xA (Kd.V_afterv (ok := (fun k_ => (w.heap.size ≤ k_) ∧ some k_ ≠ (.slice (some ad297) x7_1.length co36 : Value).ownBlock ∧ k_ ≠ gb284)) (by (with_reducible repeat (first | apply Kd.V_alloc | apply Kd.V_drewN | apply Kd.V_drew)); exact Kd.V_mono HO351.out (fun _ hk => ⟨⟨hk.1.1, ⟨hk.1.2.2.1, hk.1.2.2.2⟩⟩, hk.2⟩)) hg hat); replace HB := xA (hb); have HO354 := xA (ho); clear HO346; clear ho hb hg hat))
         go_roundg k4
         case measure => have := HK1.out; have := HK2.out; have := HK3.out; have := HK4.out; omega
         case rel => exact ⟨(y352), (wrap64 (x72_2 + 1)), xs, H', ⟨by have := HK1.out; have := HK2.out; have := HK3.out; have := HK4.out; omega⟩, ⟨by (with_reducible repeat (first | apply Kd.N_alloc | apply Kd.N_drewN | apply Kd.N_drew)); exact HO354.out⟩, ⟨by (with_reducible repeat (first | apply Kd.R_alloc | apply Kd.R_drewN | apply Kd.R_drew)); exact Kd.R_mono HO_70.out (fun _ hk => hk.1)⟩, ⟨xK BK284.out⟩, ⟨xB1 GE284.out HB.out⟩⟩
end Go.Proofs.Ytjplcongellcmaa.PFnFirstCycles
