/- What each Go function that the statement FnBitsKeepSums reaches answers, proved call by call. No condition beyond those that the theorems print. (Written by wip/tools/xprint.py of this repo, over the kit's print.) -/
import Derived.Test.YthpdpbjgdndnmaaPFnBitsKeepSumsx0
import Derived.Test.YthpdpbjgdndnmaaPFnBitsKeepSumsx1
import Derived.Test.YthpdpbjgdndnmaaPFnBitsKeepSumsx2
import Derived.Test.YthpdpbjgdndnmaaPFnBitsKeepSumsx3
import Derived.Test.YthpdpbjgdndnmaaPFnBitsKeepSumsx4
import Derived.Test.YthpdpbjgdndnmaaPFnBitsKeepSumsx5
namespace Go.Proofs.Ythpdpbjgdndnmaa.PFnBitsKeepSums
open Go.RowKit Go.Proofs.YthpdpbjgdndnmaaW.PrintWords Go.Proofs.YthpdpbjgdndnmaaW.PrintLast Go.Proofs.YthpdpbjgdndnmaaW.PrintMore
attribute [local go_sem] max2_int min2_int max_two min_two max_three min_three max_four min_four   -- for this text's walks alone
set_option linter.unusedVariables false
set_option linter.unusedSimpArgs false

/-! ### laws_FnBitsKeepSums: function 11 -/
mutual
def laws_FnBitsKeepSums.j0 : Nat → List Int → Int → List Int → List Int → Bool → List Int → Int → Bool → Option (Bool)
 | 0, _, _, _, _, _, _, _, _ => none
 | k + 1, x1, x5, x6, x7, x8, x11, x15, x138 => if x138 = true then (some false) else (if x8 = true then (laws_FnBitsKeepSums.l0 k x1 x5 x6 x7 x11 x15 0 0 x7 (x7.length : Int) 0) else (laws_FnBitsKeepSums.j3 k x1))
def laws_FnBitsKeepSums.j3 : Nat → List Int → Option (Bool)
 | 0, _ => none
 | k + 1, x1 => (spec_DrawTwoBits.f k x1).bind fun bt423 => ((impl_TwoBits.f k bt423.1 bt423.2).bind fun bt427 => ((spec_TwoBits.f k bt423.1 bt423.2).bind fun bt431 => ((impl_TwoStates.f k bt423.1 bt423.2).bind fun bt435 => ((spec_TwoStates.f k bt423.1 bt423.2).bind fun bt439 => (if (bt427.2 != bt431.2) = true then (laws_FnBitsKeepSums.j4 k bt423.1 bt423.2 bt427.1 bt427.2 bt435.1 true) else ((laws_iSame.f k bt427.1 bt431.1).bind fun t443 => (if t443 = true then (if (bt435.2 != bt439.2) = true then (laws_FnBitsKeepSums.j4 k bt423.1 bt423.2 bt427.1 bt427.2 bt435.1 true) else ((laws_iRows.f k bt435.1 bt439.1).bind fun t444 => (if t444 = true then (laws_FnBitsKeepSums.j4 k bt423.1 bt423.2 bt427.1 bt427.2 bt435.1 (bt435.2 != bt427.2)) else (laws_FnBitsKeepSums.j4 k bt423.1 bt423.2 bt427.1 bt427.2 bt435.1 true)))) else (laws_FnBitsKeepSums.j4 k bt423.1 bt423.2 bt427.1 bt427.2 bt435.1 true))))))))
def laws_FnBitsKeepSums.j4 : Nat → Int → List Int → List Int → Bool → List (List Int) → Bool → Option (Bool)
 | 0, _, _, _, _, _, _ => none
 | k + 1, x25, x26, x27, x28, x31, x278 => if x278 = true then (some false) else (if x28 = true then (laws_FnBitsKeepSums.l1 k x25 x26 x31 0 0 x27 (x27.length : Int) 0) else (some true))
def laws_FnBitsKeepSums.l1 : Nat → Int → List Int → List (List Int) → Int → Int → List Int → Int → Int → Option (Bool)
 | 0, _, _, _, _, _, _, _, _ => none
 | k + 1, x25, x26, x31, x35, x36, x280, x281, x282 => if x282 < x281 then (if 0 ≤ x282 then (if x282 < (x280.length : Int) then (if (((rd x280 x282) == 1) != (decide (x36 ≥ 0))) = true then (some false) else (if x282 < (x26.length : Int) then (if x282 < (x31.length : Int) then ((laws_iSame.f k (rd_L2 x31 x282) (([wrap64 (x35 + (wrap64 ((rd x26 x282) - (wrap64 (x25 * (rd x280 x282)))))), wrap64 (x36 + (wrap64 ((wrap64 (x35 + (wrap64 ((rd x26 x282) - (wrap64 (x25 * (rd x280 x282))))))) - (wrap64 (x25 * (rd x280 x282))))))] : List Int))).bind fun t451 => (if t451 = true then (laws_FnBitsKeepSums.l1 k x25 x26 x31 (wrap64 (x35 + (wrap64 ((rd x26 x282) - (wrap64 (x25 * (rd x280 x282))))))) (wrap64 (x36 + (wrap64 ((wrap64 (x35 + (wrap64 ((rd x26 x282) - (wrap64 (x25 * (rd x280 x282))))))) - (wrap64 (x25 * (rd x280 x282))))))) x280 x281 (wrap64 (x282 + 1))) else (some false))) else (none)) else (none))) else (none)) else (none)) else (some true)
def laws_FnBitsKeepSums.l0 : Nat → List Int → Int → List Int → List Int → List Int → Int → Int → Int → List Int → Int → Int → Option (Bool)
 | 0, _, _, _, _, _, _, _, _, _, _, _ => none
 | k + 1, x1, x5, x6, x7, x11, x15, x19, x20, x140, x141, x142 => if x142 < x141 then (if 0 ≤ x142 then (if x142 < (x140.length : Int) then (if x142 < (x6.length : Int) then (if (rd x140 x142) = 1 then (if x142 < (x11.length : Int) then (if (rd x11 x142) = (wrap64 ((wrap64 (x19 + (rd x6 x142))) - (wrap64 (x20 + (wrap64 (x5 * (rd x140 x142))))))) then (if (rd x11 x142) < (wrap64 (-x5)) then (some false) else (if (rd x11 x142) > (wrap64 (x5 - 1)) then (some false) else (laws_FnBitsKeepSums.l0 k x1 x5 x6 x7 x11 x15 (wrap64 (x19 + (rd x6 x142))) (wrap64 (x20 + (wrap64 (x5 * (rd x140 x142))))) x140 x141 (wrap64 (x142 + 1))))) else (some false)) else (none)) else (if (rd x140 x142) = (-1) then (if x142 < (x11.length : Int) then (if (rd x11 x142) = (wrap64 ((wrap64 (x19 + (rd x6 x142))) - (wrap64 (x20 + (wrap64 (x5 * (rd x140 x142))))))) then (if (rd x11 x142) < (wrap64 (-x5)) then (some false) else (if (rd x11 x142) > (wrap64 (x5 - 1)) then (some false) else (laws_FnBitsKeepSums.l0 k x1 x5 x6 x7 x11 x15 (wrap64 (x19 + (rd x6 x142))) (wrap64 (x20 + (wrap64 (x5 * (rd x140 x142))))) x140 x141 (wrap64 (x142 + 1))))) else (some false)) else (none)) else (some false))) else (none)) else (none)) else (none)) else (if x15 = (wrap64 (x19 - x20)) then (if (x7.length : Int) = (x6.length : Int) then ((laws_iSize.f x15).bind fun t417 => (laws_FnBitsKeepSums.j2 k x1 x7 (decide (t417 > x5)))) else (laws_FnBitsKeepSums.j2 k x1 x7 true)) else (laws_FnBitsKeepSums.j2 k x1 x7 true))
def laws_FnBitsKeepSums.j2 : Nat → List Int → List Int → Bool → Option (Bool)
 | 0, _, _, _ => none
 | k + 1, x1, x7, x210 => if x210 = true then (some false) else ((impl_RunsOf.f k x7).bind fun bt418 => (if bt418.2 = true then ((laws_iSum.f k bt418.1).bind fun t422 => (if t422 = (x7.length : Int) then (laws_FnBitsKeepSums.j3 k x1) else (some false))) else (some false)))
end
def laws_FnBitsKeepSums.f (k : Nat) (l0 : List Int) (l1 : List Int) : Option (Bool) := (laws_big.f l0 l1).bind fun t379 => (if t379 = true then (some true) else ((spec_DrawOneBits.f k l0).bind fun bt380 => ((impl_OneBits.f k bt380.1 bt380.2).bind fun bt384 => ((spec_OneBits.f k bt380.1 bt380.2).bind fun bt388 => ((impl_StatesOfBits.f k bt380.1 bt380.2).bind fun bt392 => ((spec_StatesOfBits.f k bt380.1 bt380.2).bind fun bt396 => ((impl_SumGap.f k bt380.1 bt380.2).bind fun bt400 => ((spec_SumGap.f k bt380.1 bt380.2).bind fun bt402 => (if (bt384.2 != bt388.2) = true then (laws_FnBitsKeepSums.j0 k l1 bt380.1 bt380.2 bt384.1 bt384.2 bt392.1 bt400.1 true) else ((laws_iSame.f k bt384.1 bt388.1).bind fun t404 => (if t404 = true then (if (bt392.2 != bt396.2) = true then (laws_FnBitsKeepSums.j0 k l1 bt380.1 bt380.2 bt384.1 bt384.2 bt392.1 bt400.1 true) else ((laws_iSame.f k bt392.1 bt396.1).bind fun t405 => (if t405 = true then (if (bt400.2 != bt402.2) = true then (laws_FnBitsKeepSums.j0 k l1 bt380.1 bt380.2 bt384.1 bt384.2 bt392.1 bt400.1 true) else (if bt400.1 = bt402.1 then ((impl_IsScaled.f k bt380.1 bt380.2).bind fun t406 => (if (bt384.2 != t406) = true then (laws_FnBitsKeepSums.j0 k l1 bt380.1 bt380.2 bt384.1 bt384.2 bt392.1 bt400.1 true) else ((impl_IsScaled.f k bt380.1 bt380.2).bind fun t407 => ((spec_IsScaled.f k bt380.1 bt380.2).bind fun t408 => (if (t407 != t408) = true then (laws_FnBitsKeepSums.j0 k l1 bt380.1 bt380.2 bt384.1 bt384.2 bt392.1 bt400.1 true) else (if (bt392.2 != bt384.2) = true then (laws_FnBitsKeepSums.j0 k l1 bt380.1 bt380.2 bt384.1 bt384.2 bt392.1 bt400.1 true) else (laws_FnBitsKeepSums.j0 k l1 bt380.1 bt380.2 bt384.1 bt384.2 bt392.1 bt400.1 (bt400.2 != bt384.2)))))))) else (laws_FnBitsKeepSums.j0 k l1 bt380.1 bt380.2 bt384.1 bt384.2 bt392.1 bt400.1 true))) else (laws_FnBitsKeepSums.j0 k l1 bt380.1 bt380.2 bt384.1 bt384.2 bt392.1 bt400.1 true)))) else (laws_FnBitsKeepSums.j0 k l1 bt380.1 bt380.2 bt384.1 bt384.2 bt392.1 bt400.1 true))))))))))))
theorem laws_FnBitsKeepSums.mono_l : ∀ k, (∀ y0 y1 y2 y3 y4 y5 y6 y7, LeO (laws_FnBitsKeepSums.j0 k y0 y1 y2 y3 y4 y5 y6 y7) (laws_FnBitsKeepSums.j0 (k + 1) y0 y1 y2 y3 y4 y5 y6 y7)) ∧ (∀ y0, LeO (laws_FnBitsKeepSums.j3 k y0) (laws_FnBitsKeepSums.j3 (k + 1) y0)) ∧ (∀ y0 y1 y2 y3 y4 y5, LeO (laws_FnBitsKeepSums.j4 k y0 y1 y2 y3 y4 y5) (laws_FnBitsKeepSums.j4 (k + 1) y0 y1 y2 y3 y4 y5)) ∧ (∀ y0 y1 y2 y3 y4 y5 y6 y7, LeO (laws_FnBitsKeepSums.l1 k y0 y1 y2 y3 y4 y5 y6 y7) (laws_FnBitsKeepSums.l1 (k + 1) y0 y1 y2 y3 y4 y5 y6 y7)) ∧ (∀ y0 y1 y2 y3 y4 y5 y6 y7 y8 y9 y10, LeO (laws_FnBitsKeepSums.l0 k y0 y1 y2 y3 y4 y5 y6 y7 y8 y9 y10) (laws_FnBitsKeepSums.l0 (k + 1) y0 y1 y2 y3 y4 y5 y6 y7 y8 y9 y10)) ∧ (∀ y0 y1 y2, LeO (laws_FnBitsKeepSums.j2 k y0 y1 y2) (laws_FnBitsKeepSums.j2 (k + 1) y0 y1 y2))
 | 0 => ⟨fun _ _ _ _ _ _ _ _ r h => by simp [laws_FnBitsKeepSums.j0] at h, fun _ r h => by simp [laws_FnBitsKeepSums.j3] at h, fun _ _ _ _ _ _ r h => by simp [laws_FnBitsKeepSums.j4] at h, fun _ _ _ _ _ _ _ _ r h => by simp [laws_FnBitsKeepSums.l1] at h, fun _ _ _ _ _ _ _ _ _ _ _ r h => by simp [laws_FnBitsKeepSums.l0] at h, fun _ _ _ r h => by simp [laws_FnBitsKeepSums.j2] at h⟩
 | k + 1 => by
  obtain ⟨ih0, ih1, ih2, ih3, ih4, ih5⟩ := laws_FnBitsKeepSums.mono_l k
  refine ⟨?_, ?_, ?_, ?_, ?_, ?_⟩
  ·intro y0 y1 y2 y3 y4 y5 y6 y7
   unfold laws_FnBitsKeepSums.j0
   repeat' first
   | (with_reducible exact ih0 _ _ _ _ _ _ _ _)
   | (with_reducible exact ih1 _)
   | (with_reducible exact ih2 _ _ _ _ _ _)
   | (with_reducible exact ih3 _ _ _ _ _ _ _ _)
   | (with_reducible exact ih4 _ _ _ _ _ _ _ _ _ _ _)
   | (with_reducible exact ih5 _ _ _)
   | (with_reducible exact impl_IsScaled.mono _ _ _)
   | (with_reducible exact impl_OneBits.mono _ _ _)
   | (with_reducible exact impl_RunsOf.mono _ _)
   | (with_reducible exact impl_StatesOfBits.mono _ _ _)
   | (with_reducible exact impl_SumGap.mono _ _ _)
   | (with_reducible exact impl_TwoBits.mono _ _ _)
   | (with_reducible exact impl_TwoStates.mono _ _ _)
   | (with_reducible exact laws_iRows.mono _ _ _)
   | (with_reducible exact laws_iSame.mono _ _ _)
   | (with_reducible exact laws_iSum.mono _ _)
   | (with_reducible exact spec_DrawOneBits.mono _ _)
   | (with_reducible exact spec_DrawTwoBits.mono _ _)
   | (with_reducible exact spec_IsScaled.mono _ _ _)
   | (with_reducible exact spec_OneBits.mono _ _ _)
   | (with_reducible exact spec_StatesOfBits.mono _ _ _)
   | (with_reducible exact spec_SumGap.mono _ _ _)
   | (with_reducible exact spec_TwoBits.mono _ _ _)
   | (with_reducible exact spec_TwoStates.mono _ _ _)
   | (with_reducible exact LeO.refl _)
   | (with_reducible exact LeO.none _)
   | (with_reducible refine LeO.ite ?_ ?_)
   | (with_reducible refine LeO.bind ?_ (fun _ => ?_))
   | exact ih0 _ _ _ _ _ _ _ _
   | exact ih1 _
   | exact ih2 _ _ _ _ _ _
   | exact ih3 _ _ _ _ _ _ _ _
   | exact ih4 _ _ _ _ _ _ _ _ _ _ _
   | exact ih5 _ _ _
   | exact impl_IsScaled.mono _ _ _
   | exact impl_OneBits.mono _ _ _
   | exact impl_RunsOf.mono _ _
   | exact impl_StatesOfBits.mono _ _ _
   | exact impl_SumGap.mono _ _ _
   | exact impl_TwoBits.mono _ _ _
   | exact impl_TwoStates.mono _ _ _
   | exact laws_iRows.mono _ _ _
   | exact laws_iSame.mono _ _ _
   | exact laws_iSum.mono _ _
   | exact spec_DrawOneBits.mono _ _
   | exact spec_DrawTwoBits.mono _ _
   | exact spec_IsScaled.mono _ _ _
   | exact spec_OneBits.mono _ _ _
   | exact spec_StatesOfBits.mono _ _ _
   | exact spec_SumGap.mono _ _ _
   | exact spec_TwoBits.mono _ _ _
   | exact spec_TwoStates.mono _ _ _
   | exact LeO.none _
   | refine LeO.ite ?_ ?_
   | refine LeO.bind ?_ (fun _ => ?_)
  ·intro y0
   unfold laws_FnBitsKeepSums.j3
   repeat' first
   | (with_reducible exact ih0 _ _ _ _ _ _ _ _)
   | (with_reducible exact ih1 _)
   | (with_reducible exact ih2 _ _ _ _ _ _)
   | (with_reducible exact ih3 _ _ _ _ _ _ _ _)
   | (with_reducible exact ih4 _ _ _ _ _ _ _ _ _ _ _)
   | (with_reducible exact ih5 _ _ _)
   | (with_reducible exact impl_IsScaled.mono _ _ _)
   | (with_reducible exact impl_OneBits.mono _ _ _)
   | (with_reducible exact impl_RunsOf.mono _ _)
   | (with_reducible exact impl_StatesOfBits.mono _ _ _)
   | (with_reducible exact impl_SumGap.mono _ _ _)
   | (with_reducible exact impl_TwoBits.mono _ _ _)
   | (with_reducible exact impl_TwoStates.mono _ _ _)
   | (with_reducible exact laws_iRows.mono _ _ _)
   | (with_reducible exact laws_iSame.mono _ _ _)
   | (with_reducible exact laws_iSum.mono _ _)
   | (with_reducible exact spec_DrawOneBits.mono _ _)
   | (with_reducible exact spec_DrawTwoBits.mono _ _)
   | (with_reducible exact spec_IsScaled.mono _ _ _)
   | (with_reducible exact spec_OneBits.mono _ _ _)
   | (with_reducible exact spec_StatesOfBits.mono _ _ _)
   | (with_reducible exact spec_SumGap.mono _ _ _)
   | (with_reducible exact spec_TwoBits.mono _ _ _)
   | (with_reducible exact spec_TwoStates.mono _ _ _)
   | (with_reducible exact LeO.refl _)
   | (with_reducible exact LeO.none _)
   | (with_reducible refine LeO.ite ?_ ?_)
   | (with_reducible refine LeO.bind ?_ (fun _ => ?_))
   | exact ih0 _ _ _ _ _ _ _ _
   | exact ih1 _
   | exact ih2 _ _ _ _ _ _
   | exact ih3 _ _ _ _ _ _ _ _
   | exact ih4 _ _ _ _ _ _ _ _ _ _ _
   | exact ih5 _ _ _
   | exact impl_IsScaled.mono _ _ _
   | exact impl_OneBits.mono _ _ _
   | exact impl_RunsOf.mono _ _
   | exact impl_StatesOfBits.mono _ _ _
   | exact impl_SumGap.mono _ _ _
   | exact impl_TwoBits.mono _ _ _
   | exact impl_TwoStates.mono _ _ _
   | exact laws_iRows.mono _ _ _
   | exact laws_iSame.mono _ _ _
   | exact laws_iSum.mono _ _
   | exact spec_DrawOneBits.mono _ _
   | exact spec_DrawTwoBits.mono _ _
   | exact spec_IsScaled.mono _ _ _
   | exact spec_OneBits.mono _ _ _
   | exact spec_StatesOfBits.mono _ _ _
   | exact spec_SumGap.mono _ _ _
   | exact spec_TwoBits.mono _ _ _
   | exact spec_TwoStates.mono _ _ _
   | exact LeO.none _
   | refine LeO.ite ?_ ?_
   | refine LeO.bind ?_ (fun _ => ?_)
  ·intro y0 y1 y2 y3 y4 y5
   unfold laws_FnBitsKeepSums.j4
   repeat' first
   | (with_reducible exact ih0 _ _ _ _ _ _ _ _)
   | (with_reducible exact ih1 _)
   | (with_reducible exact ih2 _ _ _ _ _ _)
   | (with_reducible exact ih3 _ _ _ _ _ _ _ _)
   | (with_reducible exact ih4 _ _ _ _ _ _ _ _ _ _ _)
   | (with_reducible exact ih5 _ _ _)
   | (with_reducible exact impl_IsScaled.mono _ _ _)
   | (with_reducible exact impl_OneBits.mono _ _ _)
   | (with_reducible exact impl_RunsOf.mono _ _)
   | (with_reducible exact impl_StatesOfBits.mono _ _ _)
   | (with_reducible exact impl_SumGap.mono _ _ _)
   | (with_reducible exact impl_TwoBits.mono _ _ _)
   | (with_reducible exact impl_TwoStates.mono _ _ _)
   | (with_reducible exact laws_iRows.mono _ _ _)
   | (with_reducible exact laws_iSame.mono _ _ _)
   | (with_reducible exact laws_iSum.mono _ _)
   | (with_reducible exact spec_DrawOneBits.mono _ _)
   | (with_reducible exact spec_DrawTwoBits.mono _ _)
   | (with_reducible exact spec_IsScaled.mono _ _ _)
   | (with_reducible exact spec_OneBits.mono _ _ _)
   | (with_reducible exact spec_StatesOfBits.mono _ _ _)
   | (with_reducible exact spec_SumGap.mono _ _ _)
   | (with_reducible exact spec_TwoBits.mono _ _ _)
   | (with_reducible exact spec_TwoStates.mono _ _ _)
   | (with_reducible exact LeO.refl _)
   | (with_reducible exact LeO.none _)
   | (with_reducible refine LeO.ite ?_ ?_)
   | (with_reducible refine LeO.bind ?_ (fun _ => ?_))
   | exact ih0 _ _ _ _ _ _ _ _
   | exact ih1 _
   | exact ih2 _ _ _ _ _ _
   | exact ih3 _ _ _ _ _ _ _ _
   | exact ih4 _ _ _ _ _ _ _ _ _ _ _
   | exact ih5 _ _ _
   | exact impl_IsScaled.mono _ _ _
   | exact impl_OneBits.mono _ _ _
   | exact impl_RunsOf.mono _ _
   | exact impl_StatesOfBits.mono _ _ _
   | exact impl_SumGap.mono _ _ _
   | exact impl_TwoBits.mono _ _ _
   | exact impl_TwoStates.mono _ _ _
   | exact laws_iRows.mono _ _ _
   | exact laws_iSame.mono _ _ _
   | exact laws_iSum.mono _ _
   | exact spec_DrawOneBits.mono _ _
   | exact spec_DrawTwoBits.mono _ _
   | exact spec_IsScaled.mono _ _ _
   | exact spec_OneBits.mono _ _ _
   | exact spec_StatesOfBits.mono _ _ _
   | exact spec_SumGap.mono _ _ _
   | exact spec_TwoBits.mono _ _ _
   | exact spec_TwoStates.mono _ _ _
   | exact LeO.none _
   | refine LeO.ite ?_ ?_
   | refine LeO.bind ?_ (fun _ => ?_)
  ·intro y0 y1 y2 y3 y4 y5 y6 y7
   unfold laws_FnBitsKeepSums.l1
   repeat' first
   | (with_reducible exact ih0 _ _ _ _ _ _ _ _)
   | (with_reducible exact ih1 _)
   | (with_reducible exact ih2 _ _ _ _ _ _)
   | (with_reducible exact ih3 _ _ _ _ _ _ _ _)
   | (with_reducible exact ih4 _ _ _ _ _ _ _ _ _ _ _)
   | (with_reducible exact ih5 _ _ _)
   | (with_reducible exact impl_IsScaled.mono _ _ _)
   | (with_reducible exact impl_OneBits.mono _ _ _)
   | (with_reducible exact impl_RunsOf.mono _ _)
   | (with_reducible exact impl_StatesOfBits.mono _ _ _)
   | (with_reducible exact impl_SumGap.mono _ _ _)
   | (with_reducible exact impl_TwoBits.mono _ _ _)
   | (with_reducible exact impl_TwoStates.mono _ _ _)
   | (with_reducible exact laws_iRows.mono _ _ _)
   | (with_reducible exact laws_iSame.mono _ _ _)
   | (with_reducible exact laws_iSum.mono _ _)
   | (with_reducible exact spec_DrawOneBits.mono _ _)
   | (with_reducible exact spec_DrawTwoBits.mono _ _)
   | (with_reducible exact spec_IsScaled.mono _ _ _)
   | (with_reducible exact spec_OneBits.mono _ _ _)
   | (with_reducible exact spec_StatesOfBits.mono _ _ _)
   | (with_reducible exact spec_SumGap.mono _ _ _)
   | (with_reducible exact spec_TwoBits.mono _ _ _)
   | (with_reducible exact spec_TwoStates.mono _ _ _)
   | (with_reducible exact LeO.refl _)
   | (with_reducible exact LeO.none _)
   | (with_reducible refine LeO.ite ?_ ?_)
   | (with_reducible refine LeO.bind ?_ (fun _ => ?_))
   | exact ih0 _ _ _ _ _ _ _ _
   | exact ih1 _
   | exact ih2 _ _ _ _ _ _
   | exact ih3 _ _ _ _ _ _ _ _
   | exact ih4 _ _ _ _ _ _ _ _ _ _ _
   | exact ih5 _ _ _
   | exact impl_IsScaled.mono _ _ _
   | exact impl_OneBits.mono _ _ _
   | exact impl_RunsOf.mono _ _
   | exact impl_StatesOfBits.mono _ _ _
   | exact impl_SumGap.mono _ _ _
   | exact impl_TwoBits.mono _ _ _
   | exact impl_TwoStates.mono _ _ _
   | exact laws_iRows.mono _ _ _
   | exact laws_iSame.mono _ _ _
   | exact laws_iSum.mono _ _
   | exact spec_DrawOneBits.mono _ _
   | exact spec_DrawTwoBits.mono _ _
   | exact spec_IsScaled.mono _ _ _
   | exact spec_OneBits.mono _ _ _
   | exact spec_StatesOfBits.mono _ _ _
   | exact spec_SumGap.mono _ _ _
   | exact spec_TwoBits.mono _ _ _
   | exact spec_TwoStates.mono _ _ _
   | exact LeO.none _
   | refine LeO.ite ?_ ?_
   | refine LeO.bind ?_ (fun _ => ?_)
  ·intro y0 y1 y2 y3 y4 y5 y6 y7 y8 y9 y10
   unfold laws_FnBitsKeepSums.l0
   repeat' first
   | (with_reducible exact ih0 _ _ _ _ _ _ _ _)
   | (with_reducible exact ih1 _)
   | (with_reducible exact ih2 _ _ _ _ _ _)
   | (with_reducible exact ih3 _ _ _ _ _ _ _ _)
   | (with_reducible exact ih4 _ _ _ _ _ _ _ _ _ _ _)
   | (with_reducible exact ih5 _ _ _)
   | (with_reducible exact impl_IsScaled.mono _ _ _)
   | (with_reducible exact impl_OneBits.mono _ _ _)
   | (with_reducible exact impl_RunsOf.mono _ _)
   | (with_reducible exact impl_StatesOfBits.mono _ _ _)
   | (with_reducible exact impl_SumGap.mono _ _ _)
   | (with_reducible exact impl_TwoBits.mono _ _ _)
   | (with_reducible exact impl_TwoStates.mono _ _ _)
   | (with_reducible exact laws_iRows.mono _ _ _)
   | (with_reducible exact laws_iSame.mono _ _ _)
   | (with_reducible exact laws_iSum.mono _ _)
   | (with_reducible exact spec_DrawOneBits.mono _ _)
   | (with_reducible exact spec_DrawTwoBits.mono _ _)
   | (with_reducible exact spec_IsScaled.mono _ _ _)
   | (with_reducible exact spec_OneBits.mono _ _ _)
   | (with_reducible exact spec_StatesOfBits.mono _ _ _)
   | (with_reducible exact spec_SumGap.mono _ _ _)
   | (with_reducible exact spec_TwoBits.mono _ _ _)
   | (with_reducible exact spec_TwoStates.mono _ _ _)
   | (with_reducible exact LeO.refl _)
   | (with_reducible exact LeO.none _)
   | (with_reducible refine LeO.ite ?_ ?_)
   | (with_reducible refine LeO.bind ?_ (fun _ => ?_))
   | exact ih0 _ _ _ _ _ _ _ _
   | exact ih1 _
   | exact ih2 _ _ _ _ _ _
   | exact ih3 _ _ _ _ _ _ _ _
   | exact ih4 _ _ _ _ _ _ _ _ _ _ _
   | exact ih5 _ _ _
   | exact impl_IsScaled.mono _ _ _
   | exact impl_OneBits.mono _ _ _
   | exact impl_RunsOf.mono _ _
   | exact impl_StatesOfBits.mono _ _ _
   | exact impl_SumGap.mono _ _ _
   | exact impl_TwoBits.mono _ _ _
   | exact impl_TwoStates.mono _ _ _
   | exact laws_iRows.mono _ _ _
   | exact laws_iSame.mono _ _ _
   | exact laws_iSum.mono _ _
   | exact spec_DrawOneBits.mono _ _
   | exact spec_DrawTwoBits.mono _ _
   | exact spec_IsScaled.mono _ _ _
   | exact spec_OneBits.mono _ _ _
   | exact spec_StatesOfBits.mono _ _ _
   | exact spec_SumGap.mono _ _ _
   | exact spec_TwoBits.mono _ _ _
   | exact spec_TwoStates.mono _ _ _
   | exact LeO.none _
   | refine LeO.ite ?_ ?_
   | refine LeO.bind ?_ (fun _ => ?_)
  ·intro y0 y1 y2
   unfold laws_FnBitsKeepSums.j2
   repeat' first
   | (with_reducible exact ih0 _ _ _ _ _ _ _ _)
   | (with_reducible exact ih1 _)
   | (with_reducible exact ih2 _ _ _ _ _ _)
   | (with_reducible exact ih3 _ _ _ _ _ _ _ _)
   | (with_reducible exact ih4 _ _ _ _ _ _ _ _ _ _ _)
   | (with_reducible exact ih5 _ _ _)
   | (with_reducible exact impl_IsScaled.mono _ _ _)
   | (with_reducible exact impl_OneBits.mono _ _ _)
   | (with_reducible exact impl_RunsOf.mono _ _)
   | (with_reducible exact impl_StatesOfBits.mono _ _ _)
   | (with_reducible exact impl_SumGap.mono _ _ _)
   | (with_reducible exact impl_TwoBits.mono _ _ _)
   | (with_reducible exact impl_TwoStates.mono _ _ _)
   | (with_reducible exact laws_iRows.mono _ _ _)
   | (with_reducible exact laws_iSame.mono _ _ _)
   | (with_reducible exact laws_iSum.mono _ _)
   | (with_reducible exact spec_DrawOneBits.mono _ _)
   | (with_reducible exact spec_DrawTwoBits.mono _ _)
   | (with_reducible exact spec_IsScaled.mono _ _ _)
   | (with_reducible exact spec_OneBits.mono _ _ _)
   | (with_reducible exact spec_StatesOfBits.mono _ _ _)
   | (with_reducible exact spec_SumGap.mono _ _ _)
   | (with_reducible exact spec_TwoBits.mono _ _ _)
   | (with_reducible exact spec_TwoStates.mono _ _ _)
   | (with_reducible exact LeO.refl _)
   | (with_reducible exact LeO.none _)
   | (with_reducible refine LeO.ite ?_ ?_)
   | (with_reducible refine LeO.bind ?_ (fun _ => ?_))
   | exact ih0 _ _ _ _ _ _ _ _
   | exact ih1 _
   | exact ih2 _ _ _ _ _ _
   | exact ih3 _ _ _ _ _ _ _ _
   | exact ih4 _ _ _ _ _ _ _ _ _ _ _
   | exact ih5 _ _ _
   | exact impl_IsScaled.mono _ _ _
   | exact impl_OneBits.mono _ _ _
   | exact impl_RunsOf.mono _ _
   | exact impl_StatesOfBits.mono _ _ _
   | exact impl_SumGap.mono _ _ _
   | exact impl_TwoBits.mono _ _ _
   | exact impl_TwoStates.mono _ _ _
   | exact laws_iRows.mono _ _ _
   | exact laws_iSame.mono _ _ _
   | exact laws_iSum.mono _ _
   | exact spec_DrawOneBits.mono _ _
   | exact spec_DrawTwoBits.mono _ _
   | exact spec_IsScaled.mono _ _ _
   | exact spec_OneBits.mono _ _ _
   | exact spec_StatesOfBits.mono _ _ _
   | exact spec_SumGap.mono _ _ _
   | exact spec_TwoBits.mono _ _ _
   | exact spec_TwoStates.mono _ _ _
   | exact LeO.none _
   | refine LeO.ite ?_ ?_
   | refine LeO.bind ?_ (fun _ => ?_)
theorem laws_FnBitsKeepSums.mono : ∀ a0 a1 k, LeO (laws_FnBitsKeepSums.f k a0 a1) (laws_FnBitsKeepSums.f (k + 1) a0 a1) := by
 intro a0 a1 k
 obtain ⟨ih0, ih1, ih2, ih3, ih4, ih5⟩ := laws_FnBitsKeepSums.mono_l k
 unfold laws_FnBitsKeepSums.f
 repeat' first
   | (with_reducible exact ih0 _ _ _ _ _ _ _ _)
   | (with_reducible exact ih1 _)
   | (with_reducible exact ih2 _ _ _ _ _ _)
   | (with_reducible exact ih3 _ _ _ _ _ _ _ _)
   | (with_reducible exact ih4 _ _ _ _ _ _ _ _ _ _ _)
   | (with_reducible exact ih5 _ _ _)
   | (with_reducible exact impl_IsScaled.mono _ _ _)
   | (with_reducible exact impl_OneBits.mono _ _ _)
   | (with_reducible exact impl_RunsOf.mono _ _)
   | (with_reducible exact impl_StatesOfBits.mono _ _ _)
   | (with_reducible exact impl_SumGap.mono _ _ _)
   | (with_reducible exact impl_TwoBits.mono _ _ _)
   | (with_reducible exact impl_TwoStates.mono _ _ _)
   | (with_reducible exact laws_iRows.mono _ _ _)
   | (with_reducible exact laws_iSame.mono _ _ _)
   | (with_reducible exact laws_iSum.mono _ _)
   | (with_reducible exact spec_DrawOneBits.mono _ _)
   | (with_reducible exact spec_DrawTwoBits.mono _ _)
   | (with_reducible exact spec_IsScaled.mono _ _ _)
   | (with_reducible exact spec_OneBits.mono _ _ _)
   | (with_reducible exact spec_StatesOfBits.mono _ _ _)
   | (with_reducible exact spec_SumGap.mono _ _ _)
   | (with_reducible exact spec_TwoBits.mono _ _ _)
   | (with_reducible exact spec_TwoStates.mono _ _ _)
   | (with_reducible exact LeO.refl _)
   | (with_reducible exact LeO.none _)
   | (with_reducible refine LeO.ite ?_ ?_)
   | (with_reducible refine LeO.bind ?_ (fun _ => ?_))
   | exact ih0 _ _ _ _ _ _ _ _
   | exact ih1 _
   | exact ih2 _ _ _ _ _ _
   | exact ih3 _ _ _ _ _ _ _ _
   | exact ih4 _ _ _ _ _ _ _ _ _ _ _
   | exact ih5 _ _ _
   | exact impl_IsScaled.mono _ _ _
   | exact impl_OneBits.mono _ _ _
   | exact impl_RunsOf.mono _ _
   | exact impl_StatesOfBits.mono _ _ _
   | exact impl_SumGap.mono _ _ _
   | exact impl_TwoBits.mono _ _ _
   | exact impl_TwoStates.mono _ _ _
   | exact laws_iRows.mono _ _ _
   | exact laws_iSame.mono _ _ _
   | exact laws_iSum.mono _ _
   | exact spec_DrawOneBits.mono _ _
   | exact spec_DrawTwoBits.mono _ _
   | exact spec_IsScaled.mono _ _ _
   | exact spec_OneBits.mono _ _ _
   | exact spec_StatesOfBits.mono _ _ _
   | exact spec_SumGap.mono _ _ _
   | exact spec_TwoBits.mono _ _ _
   | exact spec_TwoStates.mono _ _ _
   | exact LeO.none _
   | refine LeO.ite ?_ ?_
   | refine LeO.bind ?_ (fun _ => ?_)
set_option maxHeartbeats 8000000 in
set_option maxRecDepth 100000 in
theorem laws_FnBitsKeepSums.calls (k : Nat) (A0 : Option Addr) (c0 : Nat) (l0 : List Int) (A1 : Option Addr) (c1 : Nat) (l1 : List Int) (r : Bool) (w : World) (hr0 : Kd.C (Kd.int .u8) w A0 l0.length l0) (hc0 : l0.length ≤ c0) (hr1 : Kd.C (Kd.int .u8) w A1 l1.length l1) (hc1 : l1.length ≤ c1) (h : laws_FnBitsKeepSums.f k l0 l1 = some r) (hr_ : r = true) :
  Calls Try.prog 11 #[.slice A0 l0.length c0, .slice A1 l1.length c1] w fun e w' => e = .returned (.bool r) ∧ Below w.heap.size w w' := by
 have HRT := Aside0.mk hr_
 clear hr_
 have HR0 := Aside0.mk hr0
 have HC0 := Aside0.mk hc0
 clear hr0 hc0
 have HR1 := Aside0.mk hr1
 have HC1 := Aside0.mk hc1
 clear hr1 hc1
 have HB := Aside0.mk (Below.refl w.heap.size w)
 have H : ((laws_big.f l0 l1).bind fun t379 => (if t379 = true then (some true) else ((spec_DrawOneBits.f k l0).bind fun bt380 => ((impl_OneBits.f k bt380.1 bt380.2).bind fun bt384 => ((spec_OneBits.f k bt380.1 bt380.2).bind fun bt388 => ((impl_StatesOfBits.f k bt380.1 bt380.2).bind fun bt392 => ((spec_StatesOfBits.f k bt380.1 bt380.2).bind fun bt396 => ((impl_SumGap.f k bt380.1 bt380.2).bind fun bt400 => ((spec_SumGap.f k bt380.1 bt380.2).bind fun bt402 => (if (bt384.2 != bt388.2) = true then (laws_FnBitsKeepSums.j0 k l1 bt380.1 bt380.2 bt384.1 bt384.2 bt392.1 bt400.1 true) else ((laws_iSame.f k bt384.1 bt388.1).bind fun t404 => (if t404 = true then (if (bt392.2 != bt396.2) = true then (laws_FnBitsKeepSums.j0 k l1 bt380.1 bt380.2 bt384.1 bt384.2 bt392.1 bt400.1 true) else ((laws_iSame.f k bt392.1 bt396.1).bind fun t405 => (if t405 = true then (if (bt400.2 != bt402.2) = true then (laws_FnBitsKeepSums.j0 k l1 bt380.1 bt380.2 bt384.1 bt384.2 bt392.1 bt400.1 true) else (if bt400.1 = bt402.1 then ((impl_IsScaled.f k bt380.1 bt380.2).bind fun t406 => (if (bt384.2 != t406) = true then (laws_FnBitsKeepSums.j0 k l1 bt380.1 bt380.2 bt384.1 bt384.2 bt392.1 bt400.1 true) else ((impl_IsScaled.f k bt380.1 bt380.2).bind fun t407 => ((spec_IsScaled.f k bt380.1 bt380.2).bind fun t408 => (if (t407 != t408) = true then (laws_FnBitsKeepSums.j0 k l1 bt380.1 bt380.2 bt384.1 bt384.2 bt392.1 bt400.1 true) else (if (bt392.2 != bt384.2) = true then (laws_FnBitsKeepSums.j0 k l1 bt380.1 bt380.2 bt384.1 bt384.2 bt392.1 bt400.1 true) else (laws_FnBitsKeepSums.j0 k l1 bt380.1 bt380.2 bt384.1 bt384.2 bt392.1 bt400.1 (bt400.2 != bt384.2)))))))) else (laws_FnBitsKeepSums.j0 k l1 bt380.1 bt380.2 bt384.1 bt384.2 bt392.1 bt400.1 true))) else (laws_FnBitsKeepSums.j0 k l1 bt380.1 bt380.2 bt384.1 bt384.2 bt392.1 bt400.1 true)))) else (laws_FnBitsKeepSums.j0 k l1 bt380.1 bt380.2 bt384.1 bt384.2 bt392.1 bt400.1 true))))))))))))) = some r := h
 clear h
 replace H := Option.bind_eq_some_iff.mp H
 obtain ⟨t379, A30, H⟩ := H
 (try dsimp only at H)
 have A3 := Aside0.mk A30
 clear A30
 by_cases c4 : t379 = true
 ·subst c4
  have H1 := H
  rw [if_pos rfl] at H1
  clear H
  have H := H1
  clear H1
  obtain rfl := Option.some.inj H
  go_enter Try.func11, Try.ntmps11
  go_wp2_with (first | ((with_reducible refine gate_callee (f := 26) rfl ?_); refine goesL_ (some 41) rfl rfl Try.func26 (by kernel_rfl) rfl #[.slice A0 l0.length c0, .slice A1 l1.length c1] rfl (by (try simp only [List.map_toArray, List.map_cons, List.map_nil]); first | done | rfl | (simp only [List.length_drop, List.length_take]; rfl)) ?_; (with_reducible refine (laws_big.calls _ _ l0 _ _ l1 true _ ?side1 ?side2 ?side3 ?side4 A3.out).mono ?_); (case side1 => repeat (first | exact HR0.out | (with_reducible refine Kd.C_alloc ?_ _) | (with_reducible refine Kd.C_drewN ?_ _) | (with_reducible refine Kd.C_drew ?_))); (case side2 => exact HC0.out); (case side3 => repeat (first | exact HR1.out | (with_reducible refine Kd.C_alloc ?_ _) | (with_reducible refine Kd.C_drewN ?_ _) | (with_reducible refine Kd.C_drew ?_))); (case side4 => exact HC1.out); rintro e w' ⟨rfl, ⟨nd, rfl⟩⟩; refine ⟨_, rfl, ?_⟩))
  go_ret
  exact ⟨by first | rfl | (simp [errW_none, errW_some] <;> rfl) | (simp [*, errW_none, errW_some] <;> rfl), by repeat (first | (with_reducible first | exact HB.out | apply below_alloc | apply pw_below_drewN | apply below_drew1) | exact HB.out)⟩
 ·replace c4 := Bool.eq_false_iff.mpr c4
  subst c4
  have H1 := H
  rw [if_neg (show ¬ (false = true) by decide)] at H1
  clear H
  have H := H1
  clear H1
  replace H := Option.bind_eq_some_iff.mp H
  obtain ⟨⟨t380, t381⟩, A50, H⟩ := H
  (try dsimp only at H)
  have A5 := Aside0.mk A50
  clear A50
  replace H := Option.bind_eq_some_iff.mp H
  obtain ⟨⟨t384, t385⟩, A60, H⟩ := H
  (try dsimp only at H)
  have A6 := Aside0.mk A60
  clear A60
  replace H := Option.bind_eq_some_iff.mp H
  obtain ⟨⟨t388, t389⟩, A70, H⟩ := H
  (try dsimp only at H)
  have A7 := Aside0.mk A70
  clear A70
  replace H := Option.bind_eq_some_iff.mp H
  obtain ⟨⟨t392, t393⟩, A80, H⟩ := H
  (try dsimp only at H)
  have A8 := Aside0.mk A80
  clear A80
  replace H := Option.bind_eq_some_iff.mp H
  obtain ⟨⟨t396, t397⟩, A90, H⟩ := H
  (try dsimp only at H)
  have A9 := Aside0.mk A90
  clear A90
  replace H := Option.bind_eq_some_iff.mp H
  obtain ⟨⟨t400, t401⟩, A100, H⟩ := H
  (try dsimp only at H)
  have A10 := Aside0.mk A100
  clear A100
  replace H := Option.bind_eq_some_iff.mp H
  obtain ⟨⟨t402, t403⟩, A110, H⟩ := H
  (try dsimp only at H)
  have A11 := Aside0.mk A110
  clear A110
  have HC12 := Aside0.mk H
  clear H
  go_enter Try.func11, Try.ntmps11
  go_upto_region 10 with (first | ((with_reducible refine gate_callee (f := 26) rfl ?_); refine goesL_ (some 41) rfl rfl Try.func26 (by kernel_rfl) rfl #[.slice A0 l0.length c0, .slice A1 l1.length c1] rfl (by (try simp only [List.map_toArray, List.map_cons, List.map_nil]); first | done | rfl | (simp only [List.length_drop, List.length_take]; rfl)) ?_; (with_reducible refine (laws_big.calls _ _ l0 _ _ l1 false _ ?side1 ?side2 ?side3 ?side4 A3.out).mono ?_); (case side1 => repeat (first | exact HR0.out | (with_reducible refine Kd.C_alloc ?_ _) | (with_reducible refine Kd.C_drewN ?_ _) | (with_reducible refine Kd.C_drew ?_))); (case side2 => exact HC0.out); (case side3 => repeat (first | exact HR1.out | (with_reducible refine Kd.C_alloc ?_ _) | (with_reducible refine Kd.C_drewN ?_ _) | (with_reducible refine Kd.C_drew ?_))); (case side4 => exact HC1.out); rintro e w' ⟨rfl, ⟨nd, rfl⟩⟩; refine ⟨_, rfl, ?_⟩) | ((with_reducible refine gate_callee (f := 82) rfl ?_); refine goesL_ (some 44) rfl rfl Try.func82 (by kernel_rfl) rfl #[.slice A0 l0.length c0] rfl (by (try simp only [List.map_toArray, List.map_cons, List.map_nil]); first | done | rfl | (simp only [List.length_drop, List.length_take]; rfl)) ?_; (with_reducible refine (spec_DrawOneBits.calls k _ _ l0 t380 t381 _ ?side1 ?side2 A5.out).mono ?_); (case side1 => repeat (first | exact HR0.out | (with_reducible refine Kd.C_alloc ?_ _) | (with_reducible refine Kd.C_drewN ?_ _) | (with_reducible refine Kd.C_drew ?_))); (case side2 => exact HC0.out); rintro e w13 ⟨v382, rfl, ho0, hb⟩; refine ⟨_, rfl, ?_⟩; have n0_ := Aside0.mk (Kd.R_lower ho0 (below_size (by repeat (first | (with_reducible first | exact HB.out | apply below_alloc | apply pw_below_drewN | apply below_drew1) | exact HB.out)))); have n1_ := Aside0.mk (below_step (by repeat (first | (with_reducible first | exact HB.out | apply below_alloc | apply pw_below_drewN | apply below_drew1) | exact HB.out)) hb); clear HB; have HO383 := n0_; have HB := n1_; clear n0_ n1_; (try clear hb); (try clear hb2); (try clear hk); (try clear hi); (try clear ho0); obtain ⟨Ao14, co14, eo14⟩ := Kd.R_slice HO383.out; subst eo14) | ((with_reducible refine gate_callee (f := 83) rfl ?_); refine goesL_ (some 50) rfl rfl Try.func83 (by kernel_rfl) rfl #[.int .i64 t380, .slice Ao14 t381.length co14] rfl (by (try simp only [List.map_toArray, List.map_cons, List.map_nil]); first | done | rfl | (simp only [List.length_drop, List.length_take]; rfl)) ?_; (with_reducible refine (impl_OneBits.calls k t380 _ _ t381 t384 t385 _ ?side1 ?side2 A6.out).mono ?_); (case side1 => repeat (first | exact (Kd.R_reads' HO383.out).2.2 | (with_reducible refine Kd.C_alloc ?_ _) | (with_reducible refine Kd.C_drewN ?_ _) | (with_reducible refine Kd.C_drew ?_))); (case side2 => exact (Kd.R_reads' HO383.out).2.1); rintro e w15 ⟨v386, rfl, ho0, hb⟩; refine ⟨_, rfl, ?_⟩; have n0_ := Aside0.mk (Kd.R_elder' (by (with_reducible repeat (first | apply Kd.R_alloc | apply Kd.R_drewN | apply Kd.R_drew)); exact HO383.out) (Kd.R_base ho0) hb); have n1_ := Aside0.mk (Kd.R_lower (Kd.R_new' ho0 (Kd.R_lt (by (with_reducible repeat (first | apply Kd.R_alloc | apply Kd.R_drewN | apply Kd.R_drew)); exact HO383.out))) (below_size (by repeat (first | (with_reducible first | exact HB.out | apply below_alloc | apply pw_below_drewN | apply below_drew1) | exact HB.out)))); have n2_ := Aside0.mk (below_step (by repeat (first | (with_reducible first | exact HB.out | apply below_alloc | apply pw_below_drewN | apply below_drew1) | exact HB.out)) hb); clear HO383; clear HB; have HO383 := n0_; have HO387 := n1_; have HB := n2_; clear n0_ n1_ n2_; (try clear hb); (try clear hb2); (try clear hk); (try clear hi); (try clear ho0)) | ((with_reducible refine gate_callee (f := 84) rfl ?_); refine goesL_ (some 56) rfl rfl Try.func84 (by kernel_rfl) rfl #[.int .i64 t380, .slice Ao14 t381.length co14] rfl (by (try simp only [List.map_toArray, List.map_cons, List.map_nil]); first | done | rfl | (simp only [List.length_drop, List.length_take]; rfl)) ?_; (with_reducible refine (spec_OneBits.calls k t380 _ _ t381 t388 t389 _ ?side1 ?side2 A7.out).mono ?_); (case side1 => repeat (first | exact (Kd.R_reads' HO383.out).2.2 | (with_reducible refine Kd.C_alloc ?_ _) | (with_reducible refine Kd.C_drewN ?_ _) | (with_reducible refine Kd.C_drew ?_))); (case side2 => exact (Kd.R_reads' HO383.out).2.1); rintro e w16 ⟨v390, rfl, ho0, hb⟩; refine ⟨_, rfl, ?_⟩; have n0_ := Aside0.mk (Kd.R_elder' (by (with_reducible repeat (first | apply Kd.R_alloc | apply Kd.R_drewN | apply Kd.R_drew)); exact HO383.out) (Kd.R_base ho0) hb); have n1_ := Aside0.mk (Kd.R_elder' (by (with_reducible repeat (first | apply Kd.R_alloc | apply Kd.R_drewN | apply Kd.R_drew)); exact HO387.out) (Kd.R_base ho0) hb); have n2_ := Aside0.mk (Kd.R_lower (Kd.R_new' (Kd.R_new' ho0 (Kd.R_lt (by (with_reducible repeat (first | apply Kd.R_alloc | apply Kd.R_drewN | apply Kd.R_drew)); exact HO383.out))) (Kd.R_lt (by (with_reducible repeat (first | apply Kd.R_alloc | apply Kd.R_drewN | apply Kd.R_drew)); exact HO387.out))) (below_size (by repeat (first | (with_reducible first | exact HB.out | apply below_alloc | apply pw_below_drewN | apply below_drew1) | exact HB.out)))); have n3_ := Aside0.mk (below_step (by repeat (first | (with_reducible first | exact HB.out | apply below_alloc | apply pw_below_drewN | apply below_drew1) | exact HB.out)) hb); clear HO383; clear HO387; clear HB; have HO383 := n0_; have HO387 := n1_; have HO391 := n2_; have HB := n3_; clear n0_ n1_ n2_ n3_; (try clear hb); (try clear hb2); (try clear hk); (try clear hi); (try clear ho0)) | ((with_reducible refine gate_callee (f := 85) rfl ?_); refine goesL_ (some 62) rfl rfl Try.func85 (by kernel_rfl) rfl #[.int .i64 t380, .slice Ao14 t381.length co14] rfl (by (try simp only [List.map_toArray, List.map_cons, List.map_nil]); first | done | rfl | (simp only [List.length_drop, List.length_take]; rfl)) ?_; (with_reducible refine (impl_StatesOfBits.calls k t380 _ _ t381 t392 t393 _ ?side1 ?side2 A8.out).mono ?_); (case side1 => repeat (first | exact (Kd.R_reads' HO383.out).2.2 | (with_reducible refine Kd.C_alloc ?_ _) | (with_reducible refine Kd.C_drewN ?_ _) | (with_reducible refine Kd.C_drew ?_))); (case side2 => exact (Kd.R_reads' HO383.out).2.1); rintro e w17 ⟨v394, rfl, ho0, hb⟩; refine ⟨_, rfl, ?_⟩; have n0_ := Aside0.mk (Kd.R_elder' (by (with_reducible repeat (first | apply Kd.R_alloc | apply Kd.R_drewN | apply Kd.R_drew)); exact HO383.out) (Kd.R_base ho0) hb); have n1_ := Aside0.mk (Kd.R_elder' (by (with_reducible repeat (first | apply Kd.R_alloc | apply Kd.R_drewN | apply Kd.R_drew)); exact HO387.out) (Kd.R_base ho0) hb); have n2_ := Aside0.mk (Kd.R_elder' (by (with_reducible repeat (first | apply Kd.R_alloc | apply Kd.R_drewN | apply Kd.R_drew)); exact HO391.out) (Kd.R_base ho0) hb); have n3_ := Aside0.mk (Kd.R_lower (Kd.R_new' (Kd.R_new' (Kd.R_new' ho0 (Kd.R_lt (by (with_reducible repeat (first | apply Kd.R_alloc | apply Kd.R_drewN | apply Kd.R_drew)); exact HO383.out))) (Kd.R_lt (by (with_reducible repeat (first | apply Kd.R_alloc | apply Kd.R_drewN | apply Kd.R_drew)); exact HO387.out))) (Kd.R_lt (by (with_reducible repeat (first | apply Kd.R_alloc | apply Kd.R_drewN | apply Kd.R_drew)); exact HO391.out))) (below_size (by repeat (first | (with_reducible first | exact HB.out | apply below_alloc | apply pw_below_drewN | apply below_drew1) | exact HB.out)))); have n4_ := Aside0.mk (below_step (by repeat (first | (with_reducible first | exact HB.out | apply below_alloc | apply pw_below_drewN | apply below_drew1) | exact HB.out)) hb); clear HO383; clear HO387; clear HO391; clear HB; have HO383 := n0_; have HO387 := n1_; have HO391 := n2_; have HO395 := n3_; have HB := n4_; clear n0_ n1_ n2_ n3_ n4_; (try clear hb); (try clear hb2); (try clear hk); (try clear hi); (try clear ho0)) | ((with_reducible refine gate_callee (f := 86) rfl ?_); refine goesL_ (some 68) rfl rfl Try.func86 (by kernel_rfl) rfl #[.int .i64 t380, .slice Ao14 t381.length co14] rfl (by (try simp only [List.map_toArray, List.map_cons, List.map_nil]); first | done | rfl | (simp only [List.length_drop, List.length_take]; rfl)) ?_; (with_reducible refine (spec_StatesOfBits.calls k t380 _ _ t381 t396 t397 _ ?side1 ?side2 A9.out).mono ?_); (case side1 => repeat (first | exact (Kd.R_reads' HO383.out).2.2 | (with_reducible refine Kd.C_alloc ?_ _) | (with_reducible refine Kd.C_drewN ?_ _) | (with_reducible refine Kd.C_drew ?_))); (case side2 => exact (Kd.R_reads' HO383.out).2.1); rintro e w18 ⟨v398, rfl, ho0, hb⟩; refine ⟨_, rfl, ?_⟩; have n0_ := Aside0.mk (Kd.R_elder' (by (with_reducible repeat (first | apply Kd.R_alloc | apply Kd.R_drewN | apply Kd.R_drew)); exact HO383.out) (Kd.R_base ho0) hb); have n1_ := Aside0.mk (Kd.R_elder' (by (with_reducible repeat (first | apply Kd.R_alloc | apply Kd.R_drewN | apply Kd.R_drew)); exact HO387.out) (Kd.R_base ho0) hb); have n2_ := Aside0.mk (Kd.R_elder' (by (with_reducible repeat (first | apply Kd.R_alloc | apply Kd.R_drewN | apply Kd.R_drew)); exact HO391.out) (Kd.R_base ho0) hb); have n3_ := Aside0.mk (Kd.R_elder' (by (with_reducible repeat (first | apply Kd.R_alloc | apply Kd.R_drewN | apply Kd.R_drew)); exact HO395.out) (Kd.R_base ho0) hb); have n4_ := Aside0.mk (Kd.R_lower (Kd.R_new' (Kd.R_new' (Kd.R_new' (Kd.R_new' ho0 (Kd.R_lt (by (with_reducible repeat (first | apply Kd.R_alloc | apply Kd.R_drewN | apply Kd.R_drew)); exact HO383.out))) (Kd.R_lt (by (with_reducible repeat (first | apply Kd.R_alloc | apply Kd.R_drewN | apply Kd.R_drew)); exact HO387.out))) (Kd.R_lt (by (with_reducible repeat (first | apply Kd.R_alloc | apply Kd.R_drewN | apply Kd.R_drew)); exact HO391.out))) (Kd.R_lt (by (with_reducible repeat (first | apply Kd.R_alloc | apply Kd.R_drewN | apply Kd.R_drew)); exact HO395.out))) (below_size (by repeat (first | (with_reducible first | exact HB.out | apply below_alloc | apply pw_below_drewN | apply below_drew1) | exact HB.out)))); have n5_ := Aside0.mk (below_step (by repeat (first | (with_reducible first | exact HB.out | apply below_alloc | apply pw_below_drewN | apply below_drew1) | exact HB.out)) hb); clear HO383; clear HO387; clear HO391; clear HO395; clear HB; have HO383 := n0_; have HO387 := n1_; have HO391 := n2_; have HO395 := n3_; have HO399 := n4_; have HB := n5_; clear n0_ n1_ n2_ n3_ n4_ n5_; (try clear hb); (try clear hb2); (try clear hk); (try clear hi); (try clear ho0)) | ((with_reducible refine gate_callee (f := 87) rfl ?_); refine goesL_ (some 74) rfl rfl Try.func87 (by kernel_rfl) rfl #[.int .i64 t380, .slice Ao14 t381.length co14] rfl (by (try simp only [List.map_toArray, List.map_cons, List.map_nil]); first | done | rfl | (simp only [List.length_drop, List.length_take]; rfl)) ?_; (with_reducible refine (impl_SumGap.calls k t380 _ _ t381 t400 t401 _ ?side1 ?side2 A10.out).mono ?_); (case side1 => repeat (first | exact (Kd.R_reads' HO383.out).2.2 | (with_reducible refine Kd.C_alloc ?_ _) | (with_reducible refine Kd.C_drewN ?_ _) | (with_reducible refine Kd.C_drew ?_))); (case side2 => exact (Kd.R_reads' HO383.out).2.1); rintro e w19 ⟨rfl, hb⟩; refine ⟨_, rfl, ?_⟩; have n0_ := Aside0.mk (Kd.R_below (by (with_reducible repeat (first | apply Kd.R_alloc | apply Kd.R_drewN | apply Kd.R_drew)); exact HO383.out) hb); have n1_ := Aside0.mk (Kd.R_below (by (with_reducible repeat (first | apply Kd.R_alloc | apply Kd.R_drewN | apply Kd.R_drew)); exact HO387.out) hb); have n2_ := Aside0.mk (Kd.R_below (by (with_reducible repeat (first | apply Kd.R_alloc | apply Kd.R_drewN | apply Kd.R_drew)); exact HO391.out) hb); have n3_ := Aside0.mk (Kd.R_below (by (with_reducible repeat (first | apply Kd.R_alloc | apply Kd.R_drewN | apply Kd.R_drew)); exact HO395.out) hb); have n4_ := Aside0.mk (Kd.R_below (by (with_reducible repeat (first | apply Kd.R_alloc | apply Kd.R_drewN | apply Kd.R_drew)); exact HO399.out) hb); have n5_ := Aside0.mk (below_step (by repeat (first | (with_reducible first | exact HB.out | apply below_alloc | apply pw_below_drewN | apply below_drew1) | exact HB.out)) hb); clear HO383; clear HO387; clear HO391; clear HO395; clear HO399; clear HB; have HO383 := n0_; have HO387 := n1_; have HO391 := n2_; have HO395 := n3_; have HO399 := n4_; have HB := n5_; clear n0_ n1_ n2_ n3_ n4_ n5_; (try clear hb); (try clear hb2); (try clear hk); (try clear hi)) | ((with_reducible refine gate_callee (f := 88) rfl ?_); refine goesL_ (some 80) rfl rfl Try.func88 (by kernel_rfl) rfl #[.int .i64 t380, .slice Ao14 t381.length co14] rfl (by (try simp only [List.map_toArray, List.map_cons, List.map_nil]); first | done | rfl | (simp only [List.length_drop, List.length_take]; rfl)) ?_; (with_reducible refine (spec_SumGap.calls k t380 _ _ t381 t402 t403 _ ?side1 ?side2 A11.out).mono ?_); (case side1 => repeat (first | exact (Kd.R_reads' HO383.out).2.2 | (with_reducible refine Kd.C_alloc ?_ _) | (with_reducible refine Kd.C_drewN ?_ _) | (with_reducible refine Kd.C_drew ?_))); (case side2 => exact (Kd.R_reads' HO383.out).2.1); rintro e w20 ⟨rfl, hb⟩; refine ⟨_, rfl, ?_⟩; have n0_ := Aside0.mk (Kd.R_below (by (with_reducible repeat (first | apply Kd.R_alloc | apply Kd.R_drewN | apply Kd.R_drew)); exact HO383.out) hb); have n1_ := Aside0.mk (Kd.R_below (by (with_reducible repeat (first | apply Kd.R_alloc | apply Kd.R_drewN | apply Kd.R_drew)); exact HO387.out) hb); have n2_ := Aside0.mk (Kd.R_below (by (with_reducible repeat (first | apply Kd.R_alloc | apply Kd.R_drewN | apply Kd.R_drew)); exact HO391.out) hb); have n3_ := Aside0.mk (Kd.R_below (by (with_reducible repeat (first | apply Kd.R_alloc | apply Kd.R_drewN | apply Kd.R_drew)); exact HO395.out) hb); have n4_ := Aside0.mk (Kd.R_below (by (with_reducible repeat (first | apply Kd.R_alloc | apply Kd.R_drewN | apply Kd.R_drew)); exact HO399.out) hb); have n5_ := Aside0.mk (below_step (by repeat (first | (with_reducible first | exact HB.out | apply below_alloc | apply pw_below_drewN | apply below_drew1) | exact HB.out)) hb); clear HO383; clear HO387; clear HO391; clear HO395; clear HO399; clear HB; have HO383 := n0_; have HO387 := n1_; have HO391 := n2_; have HO395 := n3_; have HO399 := n4_; have HB := n5_; clear n0_ n1_ n2_ n3_ n4_ n5_; (try clear hb); (try clear hb2); (try clear hk); (try clear hi)))
  (try simp only [Act.put, List.setIfInBounds_toArray, List.set_cons_zero, List.set_cons_succ])
  go_cut [138] (fun v138 wc => ∃ (kq : Nat) (x138_11 : Bool), v138 = .bool x138_11 ∧ Aside0 (laws_FnBitsKeepSums.j0 kq l1 t380 t381 t384 t385 t392 t400 x138_11 = some r) ∧ Aside0 (kq ≤ k) ∧ Aside0 (Kd.R (Kd.int .i64) 3 wc w.heap.size (fun k_ => some k_ ≠ (v386 : Value).ownBlock ∧ some k_ ≠ (v394 : Value).ownBlock) (.slice Ao14 t381.length co14) t381) ∧ Aside0 (Kd.R (Kd.int .i64) 3 wc w.heap.size (fun k_ => some k_ ≠ ((.slice Ao14 t381.length co14) : Value).ownBlock ∧ some k_ ≠ (v394 : Value).ownBlock) v386 t384) ∧ Aside0 (Kd.R (Kd.int .i64) 3 wc w.heap.size (fun k_ => some k_ ≠ ((.slice Ao14 t381.length co14) : Value).ownBlock ∧ some k_ ≠ (v386 : Value).ownBlock) v394 t392) ∧ Aside0 (Below w.heap.size w wc))
  case first => as_aux_lemma =>
   have H := HC12.out
   clear HC12
   by_cases c21 : (t385 != t389) = true
   ·rw [if_pos c21] at H
    have c21b0 : (t385 != t389) = true := c21
    (try (have c21b1 : decide (t385 = t389) = false := by simpa using c21))
    (try (have c21b2 : (t385 == t389) = false := by simpa using c21))
    (try (have c21b3 : ¬ (t385 = t389) := by simpa using c21))
    clear c21
    (first | rw [c21b0] | (simp only [i64_w, i32_w]; rw [c21b0]) | skip)
    exact absurd H (by have hr_ := HRT.out; cases k <;> simp [laws_FnBitsKeepSums.j0, hr_])
   ·rw [if_neg c21] at H
    have c21b0 : (t385 != t389) = false := by simpa using c21
    (try (have c21b1 : decide (t385 = t389) = true := by simpa using c21))
    (try (have c21b2 : (t385 == t389) = true := by simpa using c21))
    clear c21
    (first | rw [c21b0] | (simp only [i64_w, i32_w]; rw [c21b0]) | skip)
    replace H := Option.bind_eq_some_iff.mp H
    obtain ⟨t404, A220, H⟩ := H
    (try dsimp only at H)
    have A22 := Aside0.mk A220
    clear A220
    by_cases c23 : t404 = true
    ·subst c23
     have H1 := H
     rw [if_pos rfl] at H1
     clear H
     have H := H1
     clear H1
     by_cases c24 : (t393 != t397) = true
     ·rw [if_pos c24] at H
      have c24b0 : (t393 != t397) = true := c24
      (try (have c24b1 : decide (t393 = t397) = false := by simpa using c24))
      (try (have c24b2 : (t393 == t397) = false := by simpa using c24))
      (try (have c24b3 : ¬ (t393 = t397) := by simpa using c24))
      clear c24
      exact absurd H (by have hr_ := HRT.out; cases k <;> simp [laws_FnBitsKeepSums.j0, hr_])
     ·rw [if_neg c24] at H
      have c24b0 : (t393 != t397) = false := by simpa using c24
      (try (have c24b1 : decide (t393 = t397) = true := by simpa using c24))
      (try (have c24b2 : (t393 == t397) = true := by simpa using c24))
      clear c24
      replace H := Option.bind_eq_some_iff.mp H
      obtain ⟨t405, A250, H⟩ := H
      (try dsimp only at H)
      have A25 := Aside0.mk A250
      clear A250
      by_cases c26 : t405 = true
      ·subst c26
       have H1 := H
       rw [if_pos rfl] at H1
       clear H
       have H := H1
       clear H1
       by_cases c27 : (t401 != t403) = true
       ·rw [if_pos c27] at H
        have c27b0 : (t401 != t403) = true := c27
        (try (have c27b1 : decide (t401 = t403) = false := by simpa using c27))
        (try (have c27b2 : (t401 == t403) = false := by simpa using c27))
        (try (have c27b3 : ¬ (t401 = t403) := by simpa using c27))
        clear c27
        exact absurd H (by have hr_ := HRT.out; cases k <;> simp [laws_FnBitsKeepSums.j0, hr_])
       ·rw [if_neg c27] at H
        have c27b0 : (t401 != t403) = false := by simpa using c27
        (try (have c27b1 : decide (t401 = t403) = true := by simpa using c27))
        (try (have c27b2 : (t401 == t403) = true := by simpa using c27))
        clear c27
        by_cases c28 : t400 = t402
        ·rw [if_pos c28] at H
         have c28b0 : (t400 == t402) = true := beq_iff_eq.mpr c28
         have c28b1 : (t400 != t402) = false := bne_eq_false_iff_eq.mpr c28
         clear c28
         replace H := Option.bind_eq_some_iff.mp H
         obtain ⟨t406, A290, H⟩ := H
         (try dsimp only at H)
         have A29 := Aside0.mk A290
         clear A290
         by_cases c30 : (t385 != t406) = true
         ·rw [if_pos c30] at H
          have c30b0 : (t385 != t406) = true := c30
          (try (have c30b1 : decide (t385 = t406) = false := by simpa using c30))
          (try (have c30b2 : (t385 == t406) = false := by simpa using c30))
          (try (have c30b3 : ¬ (t385 = t406) := by simpa using c30))
          clear c30
          exact absurd H (by have hr_ := HRT.out; cases k <;> simp [laws_FnBitsKeepSums.j0, hr_])
         ·rw [if_neg c30] at H
          have c30b0 : (t385 != t406) = false := by simpa using c30
          (try (have c30b1 : decide (t385 = t406) = true := by simpa using c30))
          (try (have c30b2 : (t385 == t406) = true := by simpa using c30))
          clear c30
          replace H := Option.bind_eq_some_iff.mp H
          obtain ⟨t407, A310, H⟩ := H
          (try dsimp only at H)
          have A31 := Aside0.mk A310
          obtain rfl : t406 = t407 := Option.some.inj (A29.out.symm.trans A31.out)
          clear A310
          replace H := Option.bind_eq_some_iff.mp H
          obtain ⟨t408, A320, H⟩ := H
          (try dsimp only at H)
          have A32 := Aside0.mk A320
          clear A320
          by_cases c33 : (t406 != t408) = true
          ·rw [if_pos c33] at H
           have c33b0 : (t406 != t408) = true := c33
           (try (have c33b1 : decide (t406 = t408) = false := by simpa using c33))
           (try (have c33b2 : (t406 == t408) = false := by simpa using c33))
           (try (have c33b3 : ¬ (t406 = t408) := by simpa using c33))
           clear c33
           exact absurd H (by have hr_ := HRT.out; cases k <;> simp [laws_FnBitsKeepSums.j0, hr_])
          ·rw [if_neg c33] at H
           have c33b0 : (t406 != t408) = false := by simpa using c33
           (try (have c33b1 : decide (t406 = t408) = true := by simpa using c33))
           (try (have c33b2 : (t406 == t408) = true := by simpa using c33))
           clear c33
           by_cases c34 : (t393 != t385) = true
           ·rw [if_pos c34] at H
            have c34b0 : (t393 != t385) = true := c34
            (try (have c34b1 : decide (t393 = t385) = false := by simpa using c34))
            (try (have c34b2 : (t393 == t385) = false := by simpa using c34))
            (try (have c34b3 : ¬ (t393 = t385) := by simpa using c34))
            clear c34
            exact absurd H (by have hr_ := HRT.out; cases k <;> simp [laws_FnBitsKeepSums.j0, hr_])
           ·rw [if_neg c34] at H
            have c34b0 : (t393 != t385) = false := by simpa using c34
            (try (have c34b1 : decide (t393 = t385) = true := by simpa using c34))
            (try (have c34b2 : (t393 == t385) = true := by simpa using c34))
            clear c34
            have H' := Aside0.mk H
            clear H
            obtain ⟨Ao35, co35, eo35⟩ := Kd.R_slice HO387.out
            subst eo35
            obtain ⟨Ao36, co36, eo36⟩ := Kd.R_slice HO391.out
            subst eo36
            go_wp2_with (first | (go_at_call 52; (with_reducible refine (laws_iSame.calls k _ _ t384 _ _ t388 true _ ?side1 ?side2 ?side3 ?side4 A22.out).mono ?_); (case side1 => repeat (first | exact (Kd.R_reads' HO387.out).2.2 | (with_reducible refine Kd.C_alloc ?_ _) | (with_reducible refine Kd.C_drewN ?_ _) | (with_reducible refine Kd.C_drew ?_))); (case side2 => exact (Kd.R_reads' HO387.out).2.1); (case side3 => repeat (first | exact (Kd.R_reads' HO391.out).2.2 | (with_reducible refine Kd.C_alloc ?_ _) | (with_reducible refine Kd.C_drewN ?_ _) | (with_reducible refine Kd.C_drew ?_))); (case side4 => exact (Kd.R_reads' HO391.out).2.1); rintro e w' ⟨rfl, ⟨nd, rfl⟩⟩; obtain ⟨Ao37, co37, eo37⟩ := Kd.R_slice HO395.out; subst eo37; obtain ⟨Ao38, co38, eo38⟩ := Kd.R_slice HO399.out; subst eo38) | (go_at_call 52; (with_reducible refine (laws_iSame.calls k _ _ t392 _ _ t396 true _ ?side1 ?side2 ?side3 ?side4 A25.out).mono ?_); (case side1 => repeat (first | exact (Kd.R_reads' HO395.out).2.2 | (with_reducible refine Kd.C_alloc ?_ _) | (with_reducible refine Kd.C_drewN ?_ _) | (with_reducible refine Kd.C_drew ?_))); (case side2 => exact (Kd.R_reads' HO395.out).2.1); (case side3 => repeat (first | exact (Kd.R_reads' HO399.out).2.2 | (with_reducible refine Kd.C_alloc ?_ _) | (with_reducible refine Kd.C_drewN ?_ _) | (with_reducible refine Kd.C_drew ?_))); (case side4 => exact (Kd.R_reads' HO399.out).2.1); rintro e w' ⟨rfl, ⟨nd, rfl⟩⟩) | (go_at_call 89; (with_reducible refine (impl_IsScaled.calls k t380 _ _ t381 t406 _ ?side1 ?side2 A29.out).mono ?_); (case side1 => repeat (first | exact (Kd.R_reads' HO383.out).2.2 | (with_reducible refine Kd.C_alloc ?_ _) | (with_reducible refine Kd.C_drewN ?_ _) | (with_reducible refine Kd.C_drew ?_))); (case side2 => exact (Kd.R_reads' HO383.out).2.1); rintro e w39 ⟨rfl, hb⟩; have n0_ := Aside0.mk (Kd.R_below (by (with_reducible repeat (first | apply Kd.R_alloc | apply Kd.R_drewN | apply Kd.R_drew)); exact HO383.out) hb); have n1_ := Aside0.mk (Kd.R_below (by (with_reducible repeat (first | apply Kd.R_alloc | apply Kd.R_drewN | apply Kd.R_drew)); exact HO387.out) hb); have n2_ := Aside0.mk (Kd.R_below (by (with_reducible repeat (first | apply Kd.R_alloc | apply Kd.R_drewN | apply Kd.R_drew)); exact HO391.out) hb); have n3_ := Aside0.mk (Kd.R_below (by (with_reducible repeat (first | apply Kd.R_alloc | apply Kd.R_drewN | apply Kd.R_drew)); exact HO395.out) hb); have n4_ := Aside0.mk (Kd.R_below (by (with_reducible repeat (first | apply Kd.R_alloc | apply Kd.R_drewN | apply Kd.R_drew)); exact HO399.out) hb); have n5_ := Aside0.mk (below_step (by repeat (first | (with_reducible first | exact HB.out | apply below_alloc | apply pw_below_drewN | apply below_drew1) | exact HB.out)) hb); clear HO383; clear HO387; clear HO391; clear HO395; clear HO399; clear HB; have HO383 := n0_; have HO387 := n1_; have HO391 := n2_; have HO395 := n3_; have HO399 := n4_; have HB := n5_; clear n0_ n1_ n2_ n3_ n4_ n5_; (try clear hb); (try clear hb2); (try clear hk); (try clear hi)) | (go_at_call 89; (with_reducible refine (impl_IsScaled.calls k t380 _ _ t381 t406 _ ?side1 ?side2 A31.out).mono ?_); (case side1 => repeat (first | exact (Kd.R_reads' HO383.out).2.2 | (with_reducible refine Kd.C_alloc ?_ _) | (with_reducible refine Kd.C_drewN ?_ _) | (with_reducible refine Kd.C_drew ?_))); (case side2 => exact (Kd.R_reads' HO383.out).2.1); rintro e w40 ⟨rfl, hb⟩; have n0_ := Aside0.mk (Kd.R_below (by (with_reducible repeat (first | apply Kd.R_alloc | apply Kd.R_drewN | apply Kd.R_drew)); exact HO383.out) hb); have n1_ := Aside0.mk (Kd.R_below (by (with_reducible repeat (first | apply Kd.R_alloc | apply Kd.R_drewN | apply Kd.R_drew)); exact HO387.out) hb); have n2_ := Aside0.mk (Kd.R_below (by (with_reducible repeat (first | apply Kd.R_alloc | apply Kd.R_drewN | apply Kd.R_drew)); exact HO391.out) hb); have n3_ := Aside0.mk (Kd.R_below (by (with_reducible repeat (first | apply Kd.R_alloc | apply Kd.R_drewN | apply Kd.R_drew)); exact HO395.out) hb); have n4_ := Aside0.mk (Kd.R_below (by (with_reducible repeat (first | apply Kd.R_alloc | apply Kd.R_drewN | apply Kd.R_drew)); exact HO399.out) hb); have n5_ := Aside0.mk (below_step (by repeat (first | (with_reducible first | exact HB.out | apply below_alloc | apply pw_below_drewN | apply below_drew1) | exact HB.out)) hb); clear HO383; clear HO387; clear HO391; clear HO395; clear HO399; clear HB; have HO383 := n0_; have HO387 := n1_; have HO391 := n2_; have HO395 := n3_; have HO399 := n4_; have HB := n5_; clear n0_ n1_ n2_ n3_ n4_ n5_; (try clear hb); (try clear hb2); (try clear hk); (try clear hi)) | (go_at_call 90; (with_reducible refine (spec_IsScaled.calls k t380 _ _ t381 t408 _ ?side1 ?side2 A32.out).mono ?_); (case side1 => repeat (first | exact (Kd.R_reads' HO383.out).2.2 | (with_reducible refine Kd.C_alloc ?_ _) | (with_reducible refine Kd.C_drewN ?_ _) | (with_reducible refine Kd.C_drew ?_))); (case side2 => exact (Kd.R_reads' HO383.out).2.1); rintro e w' ⟨rfl, ⟨nd, rfl⟩⟩))
            go_meet
            case rel => exact ⟨_, ((t401 != t385)), (by first | rfl | (simp; done) | (simp [*]; done)), H', ⟨by first | omega | exact Nat.le_refl _⟩, ⟨by (with_reducible repeat (first | apply Kd.R_alloc | apply Kd.R_drewN | apply Kd.R_drew)); exact Kd.R_mono HO383.out (fun _ hk => ⟨hk.1.1.1.2, hk.1.2⟩)⟩, ⟨by (with_reducible repeat (first | apply Kd.R_alloc | apply Kd.R_drewN | apply Kd.R_drew)); exact Kd.R_mono HO387.out (fun _ hk => ⟨hk.1.1.1.2, hk.1.2⟩)⟩, ⟨by (with_reducible repeat (first | apply Kd.R_alloc | apply Kd.R_drewN | apply Kd.R_drew)); exact Kd.R_mono HO395.out (fun _ hk => ⟨hk.1.1.1.2, hk.1.1.2⟩)⟩, ⟨by repeat (first | (with_reducible first | exact HB.out | apply below_alloc | apply pw_below_drewN | apply below_drew1) | exact HB.out)⟩⟩
        ·rw [if_neg c28] at H
         have c28b0 : (t400 == t402) = false := beq_eq_false_iff_ne.mpr c28
         have c28b1 : (t400 != t402) = true := bne_iff_ne.mpr c28
         exact absurd H (by have hr_ := HRT.out; cases k <;> simp [laws_FnBitsKeepSums.j0, hr_])
      ·replace c26 := Bool.eq_false_iff.mpr c26
       subst c26
       have H1 := H
       rw [if_neg (show ¬ (false = true) by decide)] at H1
       clear H
       have H := H1
       clear H1
       exact absurd H (by have hr_ := HRT.out; cases k <;> simp [laws_FnBitsKeepSums.j0, hr_])
    ·replace c23 := Bool.eq_false_iff.mpr c23
     subst c23
     have H1 := H
     rw [if_neg (show ¬ (false = true) by decide)] at H1
     clear H
     have H := H1
     clear H1
     exact absurd H (by have hr_ := HRT.out; cases k <;> simp [laws_FnBitsKeepSums.j0, hr_])
  case rest => as_aux_lemma =>
   clear HC12
   try clear c1
   try clear c2
   try clear p2
   try clear c3
   try clear c4
   try clear c8
   try clear c11
   try clear c21
   try clear c21b0
   try clear c21b1
   try clear c21b2
   try clear c23
   try clear c24
   try clear c24b0
   try clear c24b1
   try clear c24b2
   try clear c26
   try clear c27
   try clear c27b0
   try clear c27b1
   try clear c27b2
   try clear c28
   try clear c28b0
   try clear c28b1
   try clear c30
   try clear c30b0
   try clear c30b1
   try clear c30b2
   try clear c33
   try clear c33b0
   try clear c33b1
   try clear c33b2
   try clear c34
   try clear c34b0
   try clear c34b1
   try clear c34b2
   obtain ⟨kq, x138_11, rfl, HA, HJ11, HO_6, HO_7, HO_11, HB⟩ := hcut
   cases kq with
   | zero => exact absurd HA.out (by simp [laws_FnBitsKeepSums.j0])
   | succ kj11 =>
    have H := HA.out
    clear HA
    simp only [laws_FnBitsKeepSums.j0] at H
    by_cases c41 : x138_11 = true
    ·subst c41
     have H1 := H
     rw [if_pos rfl] at H1
     clear H
     have H := H1
     clear H1
     exact absurd ((Option.some.inj H).trans HRT.out) (by decide)
    ·replace c41 := Bool.eq_false_iff.mpr c41
     subst c41
     have H1 := H
     rw [if_neg (show ¬ (false = true) by decide)] at H1
     clear H
     have H := H1
     clear H1
     have HC42 := Aside0.mk H
     clear H
     go_upto_if 139 with (fail)
     go_cut [] (fun wc => ∃ (kq : Nat), Aside0 (laws_FnBitsKeepSums.j3 kq l1 = some r) ∧ Aside0 (kq ≤ kj11) ∧ Aside0 (Below w.heap.size w wc))
     case first => as_aux_lemma =>
      have H := HC42.out
      clear HC42
      by_cases c43 : t385 = true
      ·subst c43
       have H1 := H
       rw [if_pos rfl] at H1
       clear H
       have H := H1
       clear H1
       have H' := Aside0.mk H
       clear H
       obtain ⟨Ao44, co44, eo44⟩ := Kd.R_slice HO_7.out
       subst eo44
       go_wp2
       go_loopg [19, 20, 142] kj11 (fun kq v19 v20 v142 w' => ∃ (x19_2 : Int) (x20_2 : Int) (x142_2 : Int), v19 = .int .i64 x19_2 ∧ v20 = .int .i64 x20_2 ∧ v142 = .int .i64 x142_2 ∧ Aside0 (laws_FnBitsKeepSums.l0 kq l1 t380 t381 t384 t392 t400 x19_2 x20_2 t384 (t384.length : Int) x142_2 = some r) ∧ Aside0 (kq ≤ kj11) ∧ Aside0 (Kd.R (Kd.int .i64) 3 w' w.heap.size (fun k_ => some k_ ≠ ((.slice Ao44 t384.length co44) : Value).ownBlock ∧ some k_ ≠ (v394 : Value).ownBlock ∧ some k_ ≠ ((.slice Ao44 t384.length co44) : Value).ownBlock) (.slice Ao14 t381.length co14) t381) ∧ Aside0 (Kd.R (Kd.int .i64) 3 w' w.heap.size (fun k_ => some k_ ≠ ((.slice Ao14 t381.length co14) : Value).ownBlock ∧ some k_ ≠ (v394 : Value).ownBlock) (.slice Ao44 t384.length co44) t384) ∧ Aside0 (Kd.R (Kd.int .i64) 3 w' w.heap.size (fun k_ => some k_ ≠ ((.slice Ao14 t381.length co14) : Value).ownBlock ∧ some k_ ≠ ((.slice Ao44 t384.length co44) : Value).ownBlock ∧ some k_ ≠ ((.slice Ao44 t384.length co44) : Value).ownBlock) v394 t392) ∧ Aside0 (Kd.R (Kd.int .i64) 3 w' w.heap.size (fun k_ => some k_ ≠ ((.slice Ao14 t381.length co14) : Value).ownBlock ∧ some k_ ≠ (v394 : Value).ownBlock) (.slice Ao44 t384.length co44) t384) ∧ Aside0 (Below w.heap.size w w'))
       case atStart => exact ⟨(0), (0), (0), (by first | rfl | (simp; done) | (simp [*]; done)), (by first | rfl | (simp; done) | (simp [*]; done)), (by first | rfl | (simp; done) | (simp [*]; done)), H', ⟨Nat.le_refl _⟩, ⟨by (with_reducible repeat (first | apply Kd.R_alloc | apply Kd.R_drewN | apply Kd.R_drew)); exact Kd.R_mono HO_6.out (fun _ hk => ⟨hk.1, ⟨hk.2, hk.1⟩⟩)⟩, ⟨by (with_reducible repeat (first | apply Kd.R_alloc | apply Kd.R_drewN | apply Kd.R_drew)); exact HO_7.out⟩, ⟨by (with_reducible repeat (first | apply Kd.R_alloc | apply Kd.R_drewN | apply Kd.R_drew)); exact Kd.R_mono HO_11.out (fun _ hk => ⟨hk.1, ⟨hk.2, hk.2⟩⟩)⟩, ⟨by (with_reducible repeat (first | apply Kd.R_alloc | apply Kd.R_drewN | apply Kd.R_drew)); exact HO_7.out⟩, ⟨by repeat (first | (with_reducible first | exact HB.out | apply below_alloc | apply pw_below_drewN | apply below_drew1) | exact HB.out)⟩⟩
       case round =>
        clear H'
        try clear c1
        try clear c2
        try clear p2
        try clear c3
        try clear c4
        try clear c8
        try clear c11
        try clear c21
        try clear c21b0
        try clear c21b1
        try clear c21b2
        try clear c23
        try clear c24
        try clear c24b0
        try clear c24b1
        try clear c24b2
        try clear c26
        try clear c27
        try clear c27b0
        try clear c27b1
        try clear c27b2
        try clear c28
        try clear c28b0
        try clear c28b1
        try clear c30
        try clear c30b0
        try clear c30b1
        try clear c30b2
        try clear c33
        try clear c33b0
        try clear c33b1
        try clear c33b2
        try clear c34
        try clear c34b0
        try clear c34b1
        try clear c34b2
        try clear c41
        try clear c43
        try clear p2
        obtain ⟨x19_2, x20_2, x142_2, rfl, rfl, rfl, HA, HK2, HO_6, HO_7, HO_11, HO_140, HB⟩ := hrel
        cases gk with
        | zero => exact absurd HA.out (by simp [laws_FnBitsKeepSums.l0])
        | succ k2 =>
         have H := HA.out
         clear HA
         simp only [laws_FnBitsKeepSums.l0] at H
         by_cases c45 : x142_2 < (t384.length : Int)
         ·rw [if_pos c45] at H
          have c45b0 : decide (x142_2 < (t384.length : Int)) = true := decide_eq_true c45
          clear c45
          (first | rw [c45b0] | (simp only [i64_w, i32_w]; rw [c45b0]) | skip)
          by_cases c46 : 0 ≤ x142_2
          ·rw [if_pos c46] at H
           have c46b0 : decide (0 ≤ x142_2) = true := decide_eq_true c46
           clear c46
           by_cases c47 : x142_2 < (t384.length : Int)
           ·rw [if_pos c47] at H
            have c47b0 : decide (x142_2 < (t384.length : Int)) = true := decide_eq_true c47
            clear c47
            by_cases c48 : x142_2 < (t381.length : Int)
            ·rw [if_pos c48] at H
             have c48b0 : decide (x142_2 < (t381.length : Int)) = true := decide_eq_true c48
             clear c48
             by_cases c49 : (rd t384 x142_2) = 1
             ·rw [if_pos c49] at H
              have c49b0 : ((rd t384 x142_2) == 1) = true := beq_iff_eq.mpr c49
              have c49b1 : ((rd t384 x142_2) != 1) = false := bne_eq_false_iff_eq.mpr c49
              clear c49
              by_cases c50 : x142_2 < (t392.length : Int)
              ·rw [if_pos c50] at H
               have c50b0 : decide (x142_2 < (t392.length : Int)) = true := decide_eq_true c50
               clear c50
               by_cases c51 : (rd t392 x142_2) = (wrap64 ((wrap64 (x19_2 + (rd t381 x142_2))) - (wrap64 (x20_2 + (wrap64 (t380 * (rd t384 x142_2)))))))
               ·rw [if_pos c51] at H
                have c51b0 : ((rd t392 x142_2) == (wrap64 ((wrap64 (x19_2 + (rd t381 x142_2))) - (wrap64 (x20_2 + (wrap64 (t380 * (rd t384 x142_2)))))))) = true := beq_iff_eq.mpr c51
                have c51b1 : ((rd t392 x142_2) != (wrap64 ((wrap64 (x19_2 + (rd t381 x142_2))) - (wrap64 (x20_2 + (wrap64 (t380 * (rd t384 x142_2)))))))) = false := bne_eq_false_iff_eq.mpr c51
                clear c51
                by_cases c52 : (rd t392 x142_2) < (wrap64 (-t380))
                ·rw [if_pos c52] at H
                 have c52b0 : decide ((rd t392 x142_2) < (wrap64 (-t380))) = true := decide_eq_true c52
                 clear c52
                 exact absurd ((Option.some.inj H).trans HRT.out) (by decide)
                ·rw [if_neg c52] at H
                 have c52b0 : decide ((rd t392 x142_2) < (wrap64 (-t380))) = false := decide_eq_false c52
                 clear c52
                 by_cases c53 : (rd t392 x142_2) > (wrap64 (t380 - 1))
                 ·rw [if_pos c53] at H
                  have c53b0 : decide ((wrap64 (t380 - 1)) < (rd t392 x142_2)) = true := decide_eq_true c53
                  clear c53
                  exact absurd ((Option.some.inj H).trans HRT.out) (by decide)
                 ·rw [if_neg c53] at H
                  have c53b0 : decide ((wrap64 (t380 - 1)) < (rd t392 x142_2)) = false := decide_eq_false c53
                  clear c53
                  have H' := Aside0.mk H
                  clear H
                  have p409 : 0 ≤ (x142_2 : Int) := of_decide_eq_true (by first | (with_reducible assumption) | assumption)
                  have q409 : x142_2 < (t384.length : Int) := of_decide_eq_true (by first | (with_reducible assumption) | assumption)
                  obtain ⟨ad409, e409, hx409_0⟩ := Kd.at_int (Kd.R_reads' HO_140.out).2.2 x142_2 p409 q409
                  cases e409
                  replace p409 := eq_true p409
                  replace q409 := eq_true q409
                  have p410 : 0 ≤ (x142_2 : Int) := of_decide_eq_true (by first | (with_reducible assumption) | assumption)
                  have q410 : x142_2 < (t381.length : Int) := of_decide_eq_true (by first | (with_reducible assumption) | assumption)
                  obtain ⟨ad410, e410, hx410_0⟩ := Kd.at_int (Kd.R_reads' HO_6.out).2.2 x142_2 p410 q410
                  cases e410
                  replace p410 := eq_true p410
                  replace q410 := eq_true q410
                  obtain ⟨Ao54, co54, eo54⟩ := Kd.R_slice HO_11.out
                  subst eo54
                  have p411 : 0 ≤ (x142_2 : Int) := of_decide_eq_true (by first | (with_reducible assumption) | assumption)
                  have q411 : x142_2 < (t392.length : Int) := of_decide_eq_true (by first | (with_reducible assumption) | assumption)
                  obtain ⟨ad411, e411, hx411_0⟩ := Kd.at_int (Kd.R_reads' HO_11.out).2.2 x142_2 p411 q411
                  cases e411
                  replace p411 := eq_true p411
                  replace q411 := eq_true q411
                  have p412 : 0 ≤ (x142_2 : Int) := of_decide_eq_true (by first | (with_reducible assumption) | assumption)
                  have q412 : x142_2 < (t392.length : Int) := of_decide_eq_true (by first | (with_reducible assumption) | assumption)
                  obtain ⟨ad412, e412, hx412_0⟩ := Kd.at_int (Kd.R_reads' HO_11.out).2.2 x142_2 p412 q412
                  obtain rfl : ad411 = ad412 := (by injection e412)
                  replace p412 := eq_true p412
                  replace q412 := eq_true q412
                  have p413 : 0 ≤ (x142_2 : Int) := of_decide_eq_true (by first | (with_reducible assumption) | assumption)
                  have q413 : x142_2 < (t392.length : Int) := of_decide_eq_true (by first | (with_reducible assumption) | assumption)
                  obtain ⟨ad413, e413, hx413_0⟩ := Kd.at_int (Kd.R_reads' HO_11.out).2.2 x142_2 p413 q413
                  obtain rfl : ad411 = ad413 := (by injection e413)
                  replace p413 := eq_true p413
                  replace q413 := eq_true q413
                  go_wp2
                  go_roundg k2
                  case measure => have := HJ11.out; have := HK2.out; omega
                  case rel => exact ⟨(wrap64 (x19_2 + (rd t381 x142_2))), (wrap64 (x20_2 + (wrap64 (t380 * (rd t384 x142_2))))), (wrap64 (x142_2 + 1)), (by first | rfl | (simp; done) | (simp [*]; done)), (by first | rfl | (simp; done) | (simp [*]; done)), (by first | rfl | (simp; done) | (simp [*]; done)), H', ⟨by have := HJ11.out; have := HK2.out; omega⟩, ⟨by (with_reducible repeat (first | apply Kd.R_alloc | apply Kd.R_drewN | apply Kd.R_drew)); exact HO_6.out⟩, ⟨by (with_reducible repeat (first | apply Kd.R_alloc | apply Kd.R_drewN | apply Kd.R_drew)); exact HO_7.out⟩, ⟨by (with_reducible repeat (first | apply Kd.R_alloc | apply Kd.R_drewN | apply Kd.R_drew)); exact HO_11.out⟩, ⟨by (with_reducible repeat (first | apply Kd.R_alloc | apply Kd.R_drewN | apply Kd.R_drew)); exact HO_140.out⟩, ⟨by repeat (first | (with_reducible first | exact HB.out | apply below_alloc | apply pw_below_drewN | apply below_drew1) | exact HB.out)⟩⟩
               ·rw [if_neg c51] at H
                have c51b0 : ((rd t392 x142_2) == (wrap64 ((wrap64 (x19_2 + (rd t381 x142_2))) - (wrap64 (x20_2 + (wrap64 (t380 * (rd t384 x142_2)))))))) = false := beq_eq_false_iff_ne.mpr c51
                have c51b1 : ((rd t392 x142_2) != (wrap64 ((wrap64 (x19_2 + (rd t381 x142_2))) - (wrap64 (x20_2 + (wrap64 (t380 * (rd t384 x142_2)))))))) = true := bne_iff_ne.mpr c51
                exact absurd ((Option.some.inj H).trans HRT.out) (by decide)
              ·rw [if_neg c50] at H
               exact absurd H (by simp)
             ·rw [if_neg c49] at H
              have c49b0 : ((rd t384 x142_2) == 1) = false := beq_eq_false_iff_ne.mpr c49
              have c49b1 : ((rd t384 x142_2) != 1) = true := bne_iff_ne.mpr c49
              by_cases c55 : (rd t384 x142_2) = (-1)
              ·rw [if_pos c55] at H
               have c55b0 : ((rd t384 x142_2) == (-1)) = true := beq_iff_eq.mpr c55
               have c55b1 : ((rd t384 x142_2) != (-1)) = false := bne_eq_false_iff_eq.mpr c55
               clear c55
               by_cases c56 : x142_2 < (t392.length : Int)
               ·rw [if_pos c56] at H
                have c56b0 : decide (x142_2 < (t392.length : Int)) = true := decide_eq_true c56
                clear c56
                by_cases c57 : (rd t392 x142_2) = (wrap64 ((wrap64 (x19_2 + (rd t381 x142_2))) - (wrap64 (x20_2 + (wrap64 (t380 * (rd t384 x142_2)))))))
                ·rw [if_pos c57] at H
                 have c57b0 : ((rd t392 x142_2) == (wrap64 ((wrap64 (x19_2 + (rd t381 x142_2))) - (wrap64 (x20_2 + (wrap64 (t380 * (rd t384 x142_2)))))))) = true := beq_iff_eq.mpr c57
                 have c57b1 : ((rd t392 x142_2) != (wrap64 ((wrap64 (x19_2 + (rd t381 x142_2))) - (wrap64 (x20_2 + (wrap64 (t380 * (rd t384 x142_2)))))))) = false := bne_eq_false_iff_eq.mpr c57
                 clear c57
                 by_cases c58 : (rd t392 x142_2) < (wrap64 (-t380))
                 ·rw [if_pos c58] at H
                  have c58b0 : decide ((rd t392 x142_2) < (wrap64 (-t380))) = true := decide_eq_true c58
                  clear c58
                  exact absurd ((Option.some.inj H).trans HRT.out) (by decide)
                 ·rw [if_neg c58] at H
                  have c58b0 : decide ((rd t392 x142_2) < (wrap64 (-t380))) = false := decide_eq_false c58
                  clear c58
                  by_cases c59 : (rd t392 x142_2) > (wrap64 (t380 - 1))
                  ·rw [if_pos c59] at H
                   have c59b0 : decide ((wrap64 (t380 - 1)) < (rd t392 x142_2)) = true := decide_eq_true c59
                   clear c59
                   exact absurd ((Option.some.inj H).trans HRT.out) (by decide)
                  ·rw [if_neg c59] at H
                   have c59b0 : decide ((wrap64 (t380 - 1)) < (rd t392 x142_2)) = false := decide_eq_false c59
                   clear c59
                   have H' := Aside0.mk H
                   clear H
                   have p409 : 0 ≤ (x142_2 : Int) := of_decide_eq_true (by first | (with_reducible assumption) | assumption)
                   have q409 : x142_2 < (t384.length : Int) := of_decide_eq_true (by first | (with_reducible assumption) | assumption)
                   obtain ⟨ad409, e409, hx409_0⟩ := Kd.at_int (Kd.R_reads' HO_140.out).2.2 x142_2 p409 q409
                   cases e409
                   replace p409 := eq_true p409
                   replace q409 := eq_true q409
                   have p410 : 0 ≤ (x142_2 : Int) := of_decide_eq_true (by first | (with_reducible assumption) | assumption)
                   have q410 : x142_2 < (t381.length : Int) := of_decide_eq_true (by first | (with_reducible assumption) | assumption)
                   obtain ⟨ad410, e410, hx410_0⟩ := Kd.at_int (Kd.R_reads' HO_6.out).2.2 x142_2 p410 q410
                   cases e410
                   replace p410 := eq_true p410
                   replace q410 := eq_true q410
                   obtain ⟨Ao60, co60, eo60⟩ := Kd.R_slice HO_11.out
                   subst eo60
                   have p414 : 0 ≤ (x142_2 : Int) := of_decide_eq_true (by first | (with_reducible assumption) | assumption)
                   have q414 : x142_2 < (t392.length : Int) := of_decide_eq_true (by first | (with_reducible assumption) | assumption)
                   obtain ⟨ad414, e414, hx414_0⟩ := Kd.at_int (Kd.R_reads' HO_11.out).2.2 x142_2 p414 q414
                   cases e414
                   replace p414 := eq_true p414
                   replace q414 := eq_true q414
                   have p415 : 0 ≤ (x142_2 : Int) := of_decide_eq_true (by first | (with_reducible assumption) | assumption)
                   have q415 : x142_2 < (t392.length : Int) := of_decide_eq_true (by first | (with_reducible assumption) | assumption)
                   obtain ⟨ad415, e415, hx415_0⟩ := Kd.at_int (Kd.R_reads' HO_11.out).2.2 x142_2 p415 q415
                   obtain rfl : ad414 = ad415 := (by injection e415)
                   replace p415 := eq_true p415
                   replace q415 := eq_true q415
                   have p416 : 0 ≤ (x142_2 : Int) := of_decide_eq_true (by first | (with_reducible assumption) | assumption)
                   have q416 : x142_2 < (t392.length : Int) := of_decide_eq_true (by first | (with_reducible assumption) | assumption)
                   obtain ⟨ad416, e416, hx416_0⟩ := Kd.at_int (Kd.R_reads' HO_11.out).2.2 x142_2 p416 q416
                   obtain rfl : ad414 = ad416 := (by injection e416)
                   replace p416 := eq_true p416
                   replace q416 := eq_true q416
                   go_wp2
                   go_roundg k2
                   case measure => have := HJ11.out; have := HK2.out; omega
                   case rel => exact ⟨(wrap64 (x19_2 + (rd t381 x142_2))), (wrap64 (x20_2 + (wrap64 (t380 * (rd t384 x142_2))))), (wrap64 (x142_2 + 1)), (by first | rfl | (simp; done) | (simp [*]; done)), (by first | rfl | (simp; done) | (simp [*]; done)), (by first | rfl | (simp; done) | (simp [*]; done)), H', ⟨by have := HJ11.out; have := HK2.out; omega⟩, ⟨by (with_reducible repeat (first | apply Kd.R_alloc | apply Kd.R_drewN | apply Kd.R_drew)); exact HO_6.out⟩, ⟨by (with_reducible repeat (first | apply Kd.R_alloc | apply Kd.R_drewN | apply Kd.R_drew)); exact HO_7.out⟩, ⟨by (with_reducible repeat (first | apply Kd.R_alloc | apply Kd.R_drewN | apply Kd.R_drew)); exact HO_11.out⟩, ⟨by (with_reducible repeat (first | apply Kd.R_alloc | apply Kd.R_drewN | apply Kd.R_drew)); exact HO_140.out⟩, ⟨by repeat (first | (with_reducible first | exact HB.out | apply below_alloc | apply pw_below_drewN | apply below_drew1) | exact HB.out)⟩⟩
                ·rw [if_neg c57] at H
                 have c57b0 : ((rd t392 x142_2) == (wrap64 ((wrap64 (x19_2 + (rd t381 x142_2))) - (wrap64 (x20_2 + (wrap64 (t380 * (rd t384 x142_2)))))))) = false := beq_eq_false_iff_ne.mpr c57
                 have c57b1 : ((rd t392 x142_2) != (wrap64 ((wrap64 (x19_2 + (rd t381 x142_2))) - (wrap64 (x20_2 + (wrap64 (t380 * (rd t384 x142_2)))))))) = true := bne_iff_ne.mpr c57
                 exact absurd ((Option.some.inj H).trans HRT.out) (by decide)
               ·rw [if_neg c56] at H
                exact absurd H (by simp)
              ·rw [if_neg c55] at H
               have c55b0 : ((rd t384 x142_2) == (-1)) = false := beq_eq_false_iff_ne.mpr c55
               have c55b1 : ((rd t384 x142_2) != (-1)) = true := bne_iff_ne.mpr c55
               exact absurd ((Option.some.inj H).trans HRT.out) (by decide)
            ·rw [if_neg c48] at H
             exact absurd H (by simp)
           ·rw [if_neg c47] at H
            exact absurd H (by simp)
          ·rw [if_neg c46] at H
           exact absurd H (by simp)
         ·rw [if_neg c45] at H
          have c45b0 : decide (x142_2 < (t384.length : Int)) = false := decide_eq_false c45
          clear c45
          (first | rw [c45b0] | (simp only [i64_w, i32_w]; rw [c45b0]) | skip)
          have HC61 := Aside0.mk H
          clear H
          go_upto_region 22 with (fail)
          go_cut [210] (fun v210 wc => ∃ (kq : Nat) (x210_60 : Bool), v210 = .bool x210_60 ∧ Aside0 (laws_FnBitsKeepSums.j2 kq l1 t384 x210_60 = some r) ∧ Aside0 (kq ≤ k2) ∧ Aside0 (Kd.R (Kd.int .i64) 3 wc w.heap.size (fun _ => True) (.slice Ao44 t384.length co44) t384) ∧ Aside0 (Below w.heap.size w wc))
          case first => as_aux_lemma =>
           have H := HC61.out
           clear HC61
           by_cases c62 : t400 = (wrap64 (x19_2 - x20_2))
           ·rw [if_pos c62] at H
            have c62b0 : (t400 == (wrap64 (x19_2 - x20_2))) = true := beq_iff_eq.mpr c62
            have c62b1 : (t400 != (wrap64 (x19_2 - x20_2))) = false := bne_eq_false_iff_eq.mpr c62
            clear c62
            (first | rw [c62b0] | (simp only [i64_w, i32_w]; rw [c62b0]) | skip)
            by_cases c63 : (t384.length : Int) = (t381.length : Int)
            ·rw [if_pos c63] at H
             have c63b0 : ((t384.length : Int) == (t381.length : Int)) = true := beq_iff_eq.mpr c63
             have c63b1 : ((t384.length : Int) != (t381.length : Int)) = false := bne_eq_false_iff_eq.mpr c63
             have c63b2 : (t384.length == t381.length) = true := by first | simpa using c63 | (simp at c63 ⊢; omega)
             clear c63
             replace H := Option.bind_eq_some_iff.mp H
             obtain ⟨t417, A640, H⟩ := H
             (try dsimp only at H)
             have A64 := Aside0.mk A640
             clear A640
             have H' := Aside0.mk H
             clear H
             go_wp2_with (first | (go_at_call 53; (with_reducible refine (laws_iSize.calls t400 t417 _ A64.out).mono ?_); rintro e w' ⟨rfl, ⟨nd, rfl⟩⟩))
             go_meet
             case rel => exact ⟨_, (decide (t417 > t380)), (by first | rfl | (simp; done) | (simp [*]; done)), H', ⟨by have := HJ11.out; have := HK2.out; first | omega | exact Nat.le_refl _⟩, ⟨by (with_reducible repeat (first | apply Kd.R_alloc | apply Kd.R_drewN | apply Kd.R_drew)); exact Kd.R_mono HO_7.out (fun _ hk => trivial)⟩, ⟨by repeat (first | (with_reducible first | exact HB.out | apply below_alloc | apply pw_below_drewN | apply below_drew1) | exact HB.out)⟩⟩
            ·rw [if_neg c63] at H
             have c63b0 : ((t384.length : Int) == (t381.length : Int)) = false := beq_eq_false_iff_ne.mpr c63
             have c63b1 : ((t384.length : Int) != (t381.length : Int)) = true := bne_iff_ne.mpr c63
             have c63b2 : (t384.length == t381.length) = false := by first | simpa using c63 | (simp at c63 ⊢; omega)
             exact absurd H (by have hr_ := HRT.out; cases k2 <;> simp [laws_FnBitsKeepSums.j2, hr_])
           ·rw [if_neg c62] at H
            have c62b0 : (t400 == (wrap64 (x19_2 - x20_2))) = false := beq_eq_false_iff_ne.mpr c62
            have c62b1 : (t400 != (wrap64 (x19_2 - x20_2))) = true := bne_iff_ne.mpr c62
            (first | rw [c62b0] | (simp only [i64_w, i32_w]; rw [c62b0]) | skip)
            exact absurd H (by have hr_ := HRT.out; cases k2 <;> simp [laws_FnBitsKeepSums.j2, hr_])
          case rest => as_aux_lemma =>
           clear HC61
           try clear c1
           try clear c2
           try clear p2
           try clear c3
           try clear c4
           try clear p4
           try clear q4
           try clear hx4
           try clear c5
           try clear c6
           try clear p6
           try clear c8
           try clear c11
           try clear c21
           try clear c21b0
           try clear c21b1
           try clear c21b2
           try clear c23
           try clear c24
           try clear c24b0
           try clear c24b1
           try clear c24b2
           try clear c26
           try clear c27
           try clear c27b0
           try clear c27b1
           try clear c27b2
           try clear c28
           try clear c28b0
           try clear c28b1
           try clear c30
           try clear c30b0
           try clear c30b1
           try clear c30b2
           try clear c33
           try clear c33b0
           try clear c33b1
           try clear c33b2
           try clear c34
           try clear c34b0
           try clear c34b1
           try clear c34b2
           try clear p40
           try clear q40
           try clear hx40
           try clear c41
           try clear p41
           try clear q41
           try clear hx41
           try clear c43
           try clear c45
           try clear c45b0
           try clear c46
           try clear c46b0
           try clear c47
           try clear c47b0
           try clear c48
           try clear c48b0
           try clear c49
           try clear c49b0
           try clear c49b1
           try clear c50
           try clear c50b0
           try clear c51
           try clear c51b0
           try clear c51b1
           try clear c52
           try clear c52b0
           try clear c53
           try clear c53b0
           try clear c55
           try clear c55b0
           try clear c55b1
           try clear c56
           try clear c56b0
           try clear c57
           try clear c57b0
           try clear c57b1
           try clear c58
           try clear c58b0
           try clear c59
           try clear c59b0
           try clear c62
           try clear c62b0
           try clear c62b1
           try clear c63
           try clear c63b0
           try clear c63b1
           try clear c63b2
           try clear p64
           try clear hx409_0
           try clear hx410_0
           try clear hx411_0
           try clear hx412_0
           try clear hx413_0
           try clear hx414_0
           try clear hx415_0
           try clear hx416_0
           try clear p2
           try clear p409
           try clear p410
           try clear p411
           try clear p412
           try clear p413
           try clear p414
           try clear p415
           try clear p416
           try clear q409
           try clear q410
           try clear q411
           try clear q412
           try clear q413
           try clear q414
           try clear q415
           try clear q416
           obtain ⟨kq, x210_60, rfl, HA, HJ60, HO_7, HB⟩ := hcut
           cases kq with
           | zero => exact absurd HA.out (by simp [laws_FnBitsKeepSums.j2])
           | succ kj60 =>
            have H := HA.out
            clear HA
            simp only [laws_FnBitsKeepSums.j2] at H
            by_cases c65 : x210_60 = true
            ·subst c65
             have H1 := H
             rw [if_pos rfl] at H1
             clear H
             have H := H1
             clear H1
             exact absurd ((Option.some.inj H).trans HRT.out) (by decide)
            ·replace c65 := Bool.eq_false_iff.mpr c65
             subst c65
             have H1 := H
             rw [if_neg (show ¬ (false = true) by decide)] at H1
             clear H
             have H := H1
             clear H1
             replace H := Option.bind_eq_some_iff.mp H
             obtain ⟨⟨t418, t419⟩, A660, H⟩ := H
             (try dsimp only at H)
             have A66 := Aside0.mk A660
             clear A660
             by_cases c67 : t419 = true
             ·subst c67
              have H1 := H
              rw [if_pos rfl] at H1
              clear H
              have H := H1
              clear H1
              replace H := Option.bind_eq_some_iff.mp H
              obtain ⟨t422, A680, H⟩ := H
              (try dsimp only at H)
              have A68 := Aside0.mk A680
              clear A680
              by_cases c69 : t422 = (t384.length : Int)
              ·rw [if_pos c69] at H
               have c69b0 : (t422 == (t384.length : Int)) = true := beq_iff_eq.mpr c69
               have c69b1 : (t422 != (t384.length : Int)) = false := bne_eq_false_iff_eq.mpr c69
               clear c69
               have H' := Aside0.mk H
               clear H
               go_wp2_with (first | ((with_reducible refine gate_callee (f := 91) rfl ?_); refine goesL_ (some 213) rfl rfl Try.func91 (by kernel_rfl) rfl #[.slice Ao44 t384.length co44] rfl (by (try simp only [List.map_toArray, List.map_cons, List.map_nil]); first | done | rfl | (simp only [List.length_drop, List.length_take]; rfl)) ?_; (with_reducible refine (impl_RunsOf.calls kj60 _ _ t384 t418 true _ ?side1 ?side2 A66.out).mono ?_); (case side1 => repeat (first | exact (Kd.R_reads' HO_7.out).2.2 | (with_reducible refine Kd.C_alloc ?_ _) | (with_reducible refine Kd.C_drewN ?_ _) | (with_reducible refine Kd.C_drew ?_))); (case side2 => exact (Kd.R_reads' HO_7.out).2.1); rintro e w70 ⟨v420, rfl, ho0, hb⟩; refine ⟨_, rfl, ?_⟩; have n0_ := Aside0.mk (Kd.R_elder' (by (with_reducible repeat (first | apply Kd.R_alloc | apply Kd.R_drewN | apply Kd.R_drew)); exact HO_7.out) (Kd.R_base ho0) hb); have n1_ := Aside0.mk (Kd.R_lower (Kd.R_new' ho0 (Kd.R_lt (by (with_reducible repeat (first | apply Kd.R_alloc | apply Kd.R_drewN | apply Kd.R_drew)); exact HO_7.out))) (below_size (by repeat (first | (with_reducible first | exact HB.out | apply below_alloc | apply pw_below_drewN | apply below_drew1) | exact HB.out)))); have n2_ := Aside0.mk (below_step (by repeat (first | (with_reducible first | exact HB.out | apply below_alloc | apply pw_below_drewN | apply below_drew1) | exact HB.out)) hb); clear HO_7; clear HB; have HO_7 := n0_; have HO421 := n1_; have HB := n2_; clear n0_ n1_ n2_; (try clear hb); (try clear hb2); (try clear hk); (try clear hi); (try clear ho0); obtain ⟨Ao71, co71, eo71⟩ := Kd.R_slice HO421.out; subst eo71) | (go_at_call 92; (with_reducible refine (laws_iSum.calls kj60 _ _ t418 t422 _ ?side1 ?side2 A68.out).mono ?_); (case side1 => repeat (first | exact (Kd.R_reads' HO421.out).2.2 | (with_reducible refine Kd.C_alloc ?_ _) | (with_reducible refine Kd.C_drewN ?_ _) | (with_reducible refine Kd.C_drew ?_))); (case side2 => exact (Kd.R_reads' HO421.out).2.1); rintro e w' ⟨rfl, ⟨nd, rfl⟩⟩))
               go_meet
               case rel => exact ⟨_, H', ⟨by have := HJ11.out; have := HK2.out; have := HJ60.out; first | omega | exact Nat.le_refl _⟩, ⟨by repeat (first | (with_reducible first | exact HB.out | apply below_alloc | apply pw_below_drewN | apply below_drew1) | exact HB.out)⟩⟩
              ·rw [if_neg c69] at H
               have c69b0 : (t422 == (t384.length : Int)) = false := beq_eq_false_iff_ne.mpr c69
               have c69b1 : (t422 != (t384.length : Int)) = true := bne_iff_ne.mpr c69
               exact absurd ((Option.some.inj H).trans HRT.out) (by decide)
             ·replace c67 := Bool.eq_false_iff.mpr c67
              subst c67
              have H1 := H
              rw [if_neg (show ¬ (false = true) by decide)] at H1
              clear H
              have H := H1
              clear H1
              exact absurd ((Option.some.inj H).trans HRT.out) (by decide)
      ·replace c43 := Bool.eq_false_iff.mpr c43
       subst c43
       have H1 := H
       rw [if_neg (show ¬ (false = true) by decide)] at H1
       clear H
       have H := H1
       clear H1
       have H' := Aside0.mk H
       clear H
       go_wp2
       go_meet
       case rel => exact ⟨_, H', ⟨by have := HJ11.out; first | omega | exact Nat.le_refl _⟩, ⟨by repeat (first | (with_reducible first | exact HB.out | apply below_alloc | apply pw_below_drewN | apply below_drew1) | exact HB.out)⟩⟩
     case rest => as_aux_lemma =>
      clear HC42
      try clear c1
      try clear c2
      try clear p2
      try clear c3
      try clear c4
      try clear p4
      try clear q4
      try clear hx4
      try clear c5
      try clear c6
      try clear p6
      try clear c8
      try clear c9
      try clear c11
      try clear c21
      try clear c21b0
      try clear c21b1
      try clear c21b2
      try clear c23
      try clear c24
      try clear c24b0
      try clear c24b1
      try clear c24b2
      try clear c26
      try clear c27
      try clear c27b0
      try clear c27b1
      try clear c27b2
      try clear c28
      try clear c28b0
      try clear c28b1
      try clear c30
      try clear c30b0
      try clear c30b1
      try clear c30b2
      try clear c33
      try clear c33b0
      try clear c33b1
      try clear c33b2
      try clear c34
      try clear c34b0
      try clear c34b1
      try clear c34b2
      try clear p40
      try clear q40
      try clear hx40
      try clear c41
      try clear p41
      try clear q41
      try clear hx41
      try clear c43
      try clear c45
      try clear c45b0
      try clear c46
      try clear c46b0
      try clear c47
      try clear c47b0
      try clear c48
      try clear c48b0
      try clear c49
      try clear c49b0
      try clear c49b1
      try clear c50
      try clear c50b0
      try clear c51
      try clear c51b0
      try clear c51b1
      try clear c52
      try clear c52b0
      try clear c53
      try clear c53b0
      try clear c55
      try clear c55b0
      try clear c55b1
      try clear c56
      try clear c56b0
      try clear c57
      try clear c57b0
      try clear c57b1
      try clear c58
      try clear c58b0
      try clear c59
      try clear c59b0
      try clear c62
      try clear c62b0
      try clear c62b1
      try clear c63
      try clear c63b0
      try clear c63b1
      try clear c63b2
      try clear p64
      try clear c65
      try clear c67
      try clear c69
      try clear c69b0
      try clear c69b1
      try clear hx409_0
      try clear hx410_0
      try clear hx411_0
      try clear hx412_0
      try clear hx413_0
      try clear hx414_0
      try clear hx415_0
      try clear hx416_0
      try clear p2
      try clear p4
      try clear p40
      try clear p409
      try clear p41
      try clear p410
      try clear p411
      try clear p412
      try clear p413
      try clear p414
      try clear p415
      try clear p416
      try clear p6
      try clear p64
      try clear q4
      try clear q40
      try clear q409
      try clear q41
      try clear q410
      try clear q411
      try clear q412
      try clear q413
      try clear q414
      try clear q415
      try clear q416
      obtain ⟨kq, HA, HJ41, HB⟩ := hcut
      cases kq with
      | zero => exact absurd HA.out (by simp [laws_FnBitsKeepSums.j3])
      | succ kj41 =>
       have H := HA.out
       clear HA
       simp only [laws_FnBitsKeepSums.j3] at H
       replace H := Option.bind_eq_some_iff.mp H
       obtain ⟨⟨t423, t424⟩, A720, H⟩ := H
       (try dsimp only at H)
       have A72 := Aside0.mk A720
       clear A720
       replace H := Option.bind_eq_some_iff.mp H
       obtain ⟨⟨t427, t428⟩, A730, H⟩ := H
       (try dsimp only at H)
       have A73 := Aside0.mk A730
       clear A730
       replace H := Option.bind_eq_some_iff.mp H
       obtain ⟨⟨t431, t432⟩, A740, H⟩ := H
       (try dsimp only at H)
       have A74 := Aside0.mk A740
       clear A740
       replace H := Option.bind_eq_some_iff.mp H
       obtain ⟨⟨t435, t436⟩, A750, H⟩ := H
       (try dsimp only at H)
       have A75 := Aside0.mk A750
       clear A750
       replace H := Option.bind_eq_some_iff.mp H
       obtain ⟨⟨t439, t440⟩, A760, H⟩ := H
       (try dsimp only at H)
       have A76 := Aside0.mk A760
       clear A760
       have HC77 := Aside0.mk H
       clear H
       go_upto_region 32 with (first | ((with_reducible refine gate_callee (f := 93) rfl ?_); refine goesL_ (some 227) rfl rfl Try.func93 (by kernel_rfl) rfl #[.slice A1 l1.length c1] rfl (by (try simp only [List.map_toArray, List.map_cons, List.map_nil]); first | done | rfl | (simp only [List.length_drop, List.length_take]; rfl)) ?_; (with_reducible refine (spec_DrawTwoBits.calls kj41 _ _ l1 t423 t424 _ ?side1 ?side2 A72.out).mono ?_); (case side1 => repeat (first | exact (Kd.C_below HR1.out HB.out) | (with_reducible refine Kd.C_alloc ?_ _) | (with_reducible refine Kd.C_drewN ?_ _) | (with_reducible refine Kd.C_drew ?_))); (case side2 => exact HC1.out); rintro e w78 ⟨v425, rfl, ho0, hb⟩; refine ⟨_, rfl, ?_⟩; have n0_ := Aside0.mk (Kd.R_lower ho0 (below_size (by repeat (first | (with_reducible first | exact HB.out | apply below_alloc | apply pw_below_drewN | apply below_drew1) | exact HB.out)))); have n1_ := Aside0.mk (below_step (by repeat (first | (with_reducible first | exact HB.out | apply below_alloc | apply pw_below_drewN | apply below_drew1) | exact HB.out)) hb); clear HB; have HO426 := n0_; have HB := n1_; clear n0_ n1_; (try clear hb); (try clear hb2); (try clear hk); (try clear hi); (try clear ho0); obtain ⟨Ao79, co79, eo79⟩ := Kd.R_slice HO426.out; subst eo79) | ((with_reducible refine gate_callee (f := 94) rfl ?_); refine goesL_ (some 233) rfl rfl Try.func94 (by kernel_rfl) rfl #[.int .i64 t423, .slice Ao79 t424.length co79] rfl (by (try simp only [List.map_toArray, List.map_cons, List.map_nil]); first | done | rfl | (simp only [List.length_drop, List.length_take]; rfl)) ?_; (with_reducible refine (impl_TwoBits.calls kj41 t423 _ _ t424 t427 t428 _ ?side1 ?side2 A73.out).mono ?_); (case side1 => repeat (first | exact (Kd.R_reads' HO426.out).2.2 | (with_reducible refine Kd.C_alloc ?_ _) | (with_reducible refine Kd.C_drewN ?_ _) | (with_reducible refine Kd.C_drew ?_))); (case side2 => exact (Kd.R_reads' HO426.out).2.1); rintro e w80 ⟨v429, rfl, ho0, hb⟩; refine ⟨_, rfl, ?_⟩; have n0_ := Aside0.mk (Kd.R_elder' (by (with_reducible repeat (first | apply Kd.R_alloc | apply Kd.R_drewN | apply Kd.R_drew)); exact HO426.out) (Kd.R_base ho0) hb); have n1_ := Aside0.mk (Kd.R_lower (Kd.R_new' ho0 (Kd.R_lt (by (with_reducible repeat (first | apply Kd.R_alloc | apply Kd.R_drewN | apply Kd.R_drew)); exact HO426.out))) (below_size (by repeat (first | (with_reducible first | exact HB.out | apply below_alloc | apply pw_below_drewN | apply below_drew1) | exact HB.out)))); have n2_ := Aside0.mk (below_step (by repeat (first | (with_reducible first | exact HB.out | apply below_alloc | apply pw_below_drewN | apply below_drew1) | exact HB.out)) hb); clear HO426; clear HB; have HO426 := n0_; have HO430 := n1_; have HB := n2_; clear n0_ n1_ n2_; (try clear hb); (try clear hb2); (try clear hk); (try clear hi); (try clear ho0)) | ((with_reducible refine gate_callee (f := 95) rfl ?_); refine goesL_ (some 239) rfl rfl Try.func95 (by kernel_rfl) rfl #[.int .i64 t423, .slice Ao79 t424.length co79] rfl (by (try simp only [List.map_toArray, List.map_cons, List.map_nil]); first | done | rfl | (simp only [List.length_drop, List.length_take]; rfl)) ?_; (with_reducible refine (spec_TwoBits.calls kj41 t423 _ _ t424 t431 t432 _ ?side1 ?side2 A74.out).mono ?_); (case side1 => repeat (first | exact (Kd.R_reads' HO426.out).2.2 | (with_reducible refine Kd.C_alloc ?_ _) | (with_reducible refine Kd.C_drewN ?_ _) | (with_reducible refine Kd.C_drew ?_))); (case side2 => exact (Kd.R_reads' HO426.out).2.1); rintro e w81 ⟨v433, rfl, ho0, hb⟩; refine ⟨_, rfl, ?_⟩; have n0_ := Aside0.mk (Kd.R_elder' (by (with_reducible repeat (first | apply Kd.R_alloc | apply Kd.R_drewN | apply Kd.R_drew)); exact HO426.out) (Kd.R_base ho0) hb); have n1_ := Aside0.mk (Kd.R_elder' (by (with_reducible repeat (first | apply Kd.R_alloc | apply Kd.R_drewN | apply Kd.R_drew)); exact HO430.out) (Kd.R_base ho0) hb); have n2_ := Aside0.mk (Kd.R_lower (Kd.R_new' (Kd.R_new' ho0 (Kd.R_lt (by (with_reducible repeat (first | apply Kd.R_alloc | apply Kd.R_drewN | apply Kd.R_drew)); exact HO426.out))) (Kd.R_lt (by (with_reducible repeat (first | apply Kd.R_alloc | apply Kd.R_drewN | apply Kd.R_drew)); exact HO430.out))) (below_size (by repeat (first | (with_reducible first | exact HB.out | apply below_alloc | apply pw_below_drewN | apply below_drew1) | exact HB.out)))); have n3_ := Aside0.mk (below_step (by repeat (first | (with_reducible first | exact HB.out | apply below_alloc | apply pw_below_drewN | apply below_drew1) | exact HB.out)) hb); clear HO426; clear HO430; clear HB; have HO426 := n0_; have HO430 := n1_; have HO434 := n2_; have HB := n3_; clear n0_ n1_ n2_ n3_; (try clear hb); (try clear hb2); (try clear hk); (try clear hi); (try clear ho0)) | ((with_reducible refine gate_callee (f := 96) rfl ?_); refine goesL_ (some 245) rfl rfl Try.func96 (by kernel_rfl) rfl #[.int .i64 t423, .slice Ao79 t424.length co79] rfl (by (try simp only [List.map_toArray, List.map_cons, List.map_nil]); first | done | rfl | (simp only [List.length_drop, List.length_take]; rfl)) ?_; (with_reducible refine (impl_TwoStates.calls kj41 t423 _ _ t424 t435 t436 _ ?side1 ?side2 A75.out).mono ?_); (case side1 => repeat (first | exact (Kd.R_reads' HO426.out).2.2 | (with_reducible refine Kd.C_alloc ?_ _) | (with_reducible refine Kd.C_drewN ?_ _) | (with_reducible refine Kd.C_drew ?_))); (case side2 => exact (Kd.R_reads' HO426.out).2.1); rintro e w82 ⟨v437, rfl, ho0, hb⟩; refine ⟨_, rfl, ?_⟩; have n0_ := Aside0.mk (Kd.R_below (by (with_reducible repeat (first | apply Kd.R_alloc | apply Kd.R_drewN | apply Kd.R_drew)); exact HO426.out) hb); have n1_ := Aside0.mk (Kd.R_below (by (with_reducible repeat (first | apply Kd.R_alloc | apply Kd.R_drewN | apply Kd.R_drew)); exact HO430.out) hb); have n2_ := Aside0.mk (Kd.R_below (by (with_reducible repeat (first | apply Kd.R_alloc | apply Kd.R_drewN | apply Kd.R_drew)); exact HO434.out) hb); have n3_ := Aside0.mk (Kd.S_lower (Kd.S_new' (Kd.S_new' (Kd.S_new' ho0 (Kd.R_lt (by (with_reducible repeat (first | apply Kd.R_alloc | apply Kd.R_drewN | apply Kd.R_drew)); exact HO426.out))) (Kd.R_lt (by (with_reducible repeat (first | apply Kd.R_alloc | apply Kd.R_drewN | apply Kd.R_drew)); exact HO430.out))) (Kd.R_lt (by (with_reducible repeat (first | apply Kd.R_alloc | apply Kd.R_drewN | apply Kd.R_drew)); exact HO434.out))) (below_size (by repeat (first | (with_reducible first | exact HB.out | apply below_alloc | apply pw_below_drewN | apply below_drew1) | exact HB.out)))); have n4_ := Aside0.mk (below_step (by repeat (first | (with_reducible first | exact HB.out | apply below_alloc | apply pw_below_drewN | apply below_drew1) | exact HB.out)) hb); clear HO426; clear HO430; clear HO434; clear HB; have HO426 := n0_; have HO430 := n1_; have HO434 := n2_; have HO438 := n3_; have HB := n4_; clear n0_ n1_ n2_ n3_ n4_; (try clear hb); (try clear hb2); (try clear hk); (try clear hi); (try clear ho0)) | ((with_reducible refine gate_callee (f := 97) rfl ?_); refine goesL_ (some 251) rfl rfl Try.func97 (by kernel_rfl) rfl #[.int .i64 t423, .slice Ao79 t424.length co79] rfl (by (try simp only [List.map_toArray, List.map_cons, List.map_nil]); first | done | rfl | (simp only [List.length_drop, List.length_take]; rfl)) ?_; (with_reducible refine (spec_TwoStates.calls kj41 t423 _ _ t424 t439 t440 _ ?side1 ?side2 A76.out).mono ?_); (case side1 => repeat (first | exact (Kd.R_reads' HO426.out).2.2 | (with_reducible refine Kd.C_alloc ?_ _) | (with_reducible refine Kd.C_drewN ?_ _) | (with_reducible refine Kd.C_drew ?_))); (case side2 => exact (Kd.R_reads' HO426.out).2.1); rintro e w83 ⟨v441, rfl, ho0, hb⟩; refine ⟨_, rfl, ?_⟩; have n0_ := Aside0.mk (Kd.R_below (by (with_reducible repeat (first | apply Kd.R_alloc | apply Kd.R_drewN | apply Kd.R_drew)); exact HO426.out) hb); have n1_ := Aside0.mk (Kd.R_below (by (with_reducible repeat (first | apply Kd.R_alloc | apply Kd.R_drewN | apply Kd.R_drew)); exact HO430.out) hb); have n2_ := Aside0.mk (Kd.R_below (by (with_reducible repeat (first | apply Kd.R_alloc | apply Kd.R_drewN | apply Kd.R_drew)); exact HO434.out) hb); have n3_ := Aside0.mk (Kd.S_elder' (by (with_reducible repeat (first | apply Kd.S_alloc | apply Kd.S_drewN | apply Kd.S_drew)); exact HO438.out) (Kd.S_base ho0) hb); have n4_ := Aside0.mk (Kd.S_lower (Kd.S_new' (Kd.S_new' (Kd.S_new' (Kd.S_new' ho0 (Kd.R_lt (by (with_reducible repeat (first | apply Kd.R_alloc | apply Kd.R_drewN | apply Kd.R_drew)); exact HO426.out))) (Kd.R_lt (by (with_reducible repeat (first | apply Kd.R_alloc | apply Kd.R_drewN | apply Kd.R_drew)); exact HO430.out))) (Kd.R_lt (by (with_reducible repeat (first | apply Kd.R_alloc | apply Kd.R_drewN | apply Kd.R_drew)); exact HO434.out))) (Kd.S_lt (by (with_reducible repeat (first | apply Kd.S_alloc | apply Kd.S_drewN | apply Kd.S_drew)); exact HO438.out))) (below_size (by repeat (first | (with_reducible first | exact HB.out | apply below_alloc | apply pw_below_drewN | apply below_drew1) | exact HB.out)))); have n5_ := Aside0.mk (below_step (by repeat (first | (with_reducible first | exact HB.out | apply below_alloc | apply pw_below_drewN | apply below_drew1) | exact HB.out)) hb); clear HO426; clear HO430; clear HO434; clear HO438; clear HB; have HO426 := n0_; have HO430 := n1_; have HO434 := n2_; have HO438 := n3_; have HO442 := n4_; have HB := n5_; clear n0_ n1_ n2_ n3_ n4_ n5_; (try clear hb); (try clear hb2); (try clear hk); (try clear hi); (try clear ho0)))
       (try simp only [Act.put, List.setIfInBounds_toArray, List.set_cons_zero, List.set_cons_succ])
       go_cut [278] (fun v278 wc => ∃ (kq : Nat) (x278_76 : Bool), v278 = .bool x278_76 ∧ Aside0 (laws_FnBitsKeepSums.j4 kq t423 t424 t427 t428 t435 x278_76 = some r) ∧ Aside0 (kq ≤ kj41) ∧ Aside0 (Kd.R (Kd.int .i64) 3 wc w.heap.size (fun k_ => some k_ ≠ (v429 : Value).ownBlock) (.slice Ao79 t424.length co79) t424) ∧ Aside0 (Kd.R (Kd.int .i64) 3 wc w.heap.size (fun k_ => some k_ ≠ ((.slice Ao79 t424.length co79) : Value).ownBlock) v429 t427) ∧ Aside0 (Kd.S (Kd.slice 3 (Kd.int .i64)) 26 wc w.heap.size (fun k_ => some k_ ≠ ((.slice Ao79 t424.length co79) : Value).ownBlock ∧ some k_ ≠ (v429 : Value).ownBlock) v437 t435) ∧ Aside0 (Below w.heap.size w wc))
       case first => as_aux_lemma =>
        have H := HC77.out
        clear HC77
        by_cases c84 : (t428 != t432) = true
        ·rw [if_pos c84] at H
         have c84b0 : (t428 != t432) = true := c84
         (try (have c84b1 : decide (t428 = t432) = false := by simpa using c84))
         (try (have c84b2 : (t428 == t432) = false := by simpa using c84))
         (try (have c84b3 : ¬ (t428 = t432) := by simpa using c84))
         clear c84
         (first | rw [c84b0] | (simp only [i64_w, i32_w]; rw [c84b0]) | skip)
         exact absurd H (by have hr_ := HRT.out; cases kj41 <;> simp [laws_FnBitsKeepSums.j4, hr_])
        ·rw [if_neg c84] at H
         have c84b0 : (t428 != t432) = false := by simpa using c84
         (try (have c84b1 : decide (t428 = t432) = true := by simpa using c84))
         (try (have c84b2 : (t428 == t432) = true := by simpa using c84))
         clear c84
         (first | rw [c84b0] | (simp only [i64_w, i32_w]; rw [c84b0]) | skip)
         replace H := Option.bind_eq_some_iff.mp H
         obtain ⟨t443, A850, H⟩ := H
         (try dsimp only at H)
         have A85 := Aside0.mk A850
         clear A850
         by_cases c86 : t443 = true
         ·subst c86
          have H1 := H
          rw [if_pos rfl] at H1
          clear H
          have H := H1
          clear H1
          by_cases c87 : (t436 != t440) = true
          ·rw [if_pos c87] at H
           have c87b0 : (t436 != t440) = true := c87
           (try (have c87b1 : decide (t436 = t440) = false := by simpa using c87))
           (try (have c87b2 : (t436 == t440) = false := by simpa using c87))
           (try (have c87b3 : ¬ (t436 = t440) := by simpa using c87))
           clear c87
           exact absurd H (by have hr_ := HRT.out; cases kj41 <;> simp [laws_FnBitsKeepSums.j4, hr_])
          ·rw [if_neg c87] at H
           have c87b0 : (t436 != t440) = false := by simpa using c87
           (try (have c87b1 : decide (t436 = t440) = true := by simpa using c87))
           (try (have c87b2 : (t436 == t440) = true := by simpa using c87))
           clear c87
           replace H := Option.bind_eq_some_iff.mp H
           obtain ⟨t444, A880, H⟩ := H
           (try dsimp only at H)
           have A88 := Aside0.mk A880
           clear A880
           by_cases c89 : t444 = true
           ·subst c89
            have H1 := H
            rw [if_pos rfl] at H1
            clear H
            have H := H1
            clear H1
            have H' := Aside0.mk H
            clear H
            obtain ⟨Ao90, co90, eo90⟩ := Kd.R_slice HO430.out
            subst eo90
            obtain ⟨Ao91, co91, eo91⟩ := Kd.R_slice HO434.out
            subst eo91
            go_wp2_with (first | (go_at_call 52; (with_reducible refine (laws_iSame.calls kj41 _ _ t427 _ _ t431 true _ ?side1 ?side2 ?side3 ?side4 A85.out).mono ?_); (case side1 => repeat (first | exact (Kd.R_reads' HO430.out).2.2 | (with_reducible refine Kd.C_alloc ?_ _) | (with_reducible refine Kd.C_drewN ?_ _) | (with_reducible refine Kd.C_drew ?_))); (case side2 => exact (Kd.R_reads' HO430.out).2.1); (case side3 => repeat (first | exact (Kd.R_reads' HO434.out).2.2 | (with_reducible refine Kd.C_alloc ?_ _) | (with_reducible refine Kd.C_drewN ?_ _) | (with_reducible refine Kd.C_drew ?_))); (case side4 => exact (Kd.R_reads' HO434.out).2.1); rintro e w' ⟨rfl, ⟨nd, rfl⟩⟩; obtain ⟨Ao92, co92, eo92⟩ := Kd.S_slice HO438.out; subst eo92; obtain ⟨Ao93, co93, eo93⟩ := Kd.S_slice HO442.out; subst eo93) | (go_at_call 98; (with_reducible refine (laws_iRows.calls kj41 _ _ t435 _ _ t439 true _ ?side1 ?side2 ?side3 ?side4 A88.out).mono ?_); (case side1 => repeat (first | exact (Kd.S_reads' HO438.out).2.2 | (with_reducible refine Kd.C_alloc ?_ _) | (with_reducible refine Kd.C_drewN ?_ _) | (with_reducible refine Kd.C_drew ?_))); (case side2 => exact (Kd.S_reads' HO438.out).2.1); (case side3 => repeat (first | exact (Kd.S_reads' HO442.out).2.2 | (with_reducible refine Kd.C_alloc ?_ _) | (with_reducible refine Kd.C_drewN ?_ _) | (with_reducible refine Kd.C_drew ?_))); (case side4 => exact (Kd.S_reads' HO442.out).2.1); rintro e w' ⟨rfl, ⟨nd, rfl⟩⟩))
            go_meet
            case rel => exact ⟨_, ((t436 != t428)), (by first | rfl | (simp; done) | (simp [*]; done)), H', ⟨by have := HJ11.out; have := HJ41.out; first | omega | exact Nat.le_refl _⟩, ⟨by (with_reducible repeat (first | apply Kd.R_alloc | apply Kd.R_drewN | apply Kd.R_drew)); exact Kd.R_mono HO426.out (fun _ hk => hk.1.2)⟩, ⟨by (with_reducible repeat (first | apply Kd.R_alloc | apply Kd.R_drewN | apply Kd.R_drew)); exact Kd.R_mono HO430.out (fun _ hk => hk.1.2)⟩, ⟨by (with_reducible repeat (first | apply Kd.S_alloc | apply Kd.S_drewN | apply Kd.S_drew)); exact Kd.S_mono HO438.out (fun _ hk => ⟨hk.1.1.1.2, hk.1.1.2⟩)⟩, ⟨by repeat (first | (with_reducible first | exact HB.out | apply below_alloc | apply pw_below_drewN | apply below_drew1) | exact HB.out)⟩⟩
           ·replace c89 := Bool.eq_false_iff.mpr c89
            subst c89
            have H1 := H
            rw [if_neg (show ¬ (false = true) by decide)] at H1
            clear H
            have H := H1
            clear H1
            exact absurd H (by have hr_ := HRT.out; cases kj41 <;> simp [laws_FnBitsKeepSums.j4, hr_])
         ·replace c86 := Bool.eq_false_iff.mpr c86
          subst c86
          have H1 := H
          rw [if_neg (show ¬ (false = true) by decide)] at H1
          clear H
          have H := H1
          clear H1
          exact absurd H (by have hr_ := HRT.out; cases kj41 <;> simp [laws_FnBitsKeepSums.j4, hr_])
       case rest => as_aux_lemma =>
        clear HC77
        try clear c1
        try clear c2
        try clear p2
        try clear c3
        try clear c4
        try clear p4
        try clear q4
        try clear hx4
        try clear c5
        try clear c6
        try clear p6
        try clear c8
        try clear c9
        try clear c11
        try clear c21
        try clear c21b0
        try clear c21b1
        try clear c21b2
        try clear c23
        try clear c24
        try clear c24b0
        try clear c24b1
        try clear c24b2
        try clear c26
        try clear c27
        try clear c27b0
        try clear c27b1
        try clear c27b2
        try clear c28
        try clear c28b0
        try clear c28b1
        try clear c30
        try clear c30b0
        try clear c30b1
        try clear c30b2
        try clear c33
        try clear c33b0
        try clear c33b1
        try clear c33b2
        try clear c34
        try clear c34b0
        try clear c34b1
        try clear c34b2
        try clear p40
        try clear q40
        try clear hx40
        try clear c41
        try clear p41
        try clear q41
        try clear hx41
        try clear c43
        try clear c45
        try clear c45b0
        try clear c46
        try clear c46b0
        try clear c47
        try clear c47b0
        try clear c48
        try clear c48b0
        try clear c49
        try clear c49b0
        try clear c49b1
        try clear c50
        try clear c50b0
        try clear c51
        try clear c51b0
        try clear c51b1
        try clear c52
        try clear c52b0
        try clear c53
        try clear c53b0
        try clear c55
        try clear c55b0
        try clear c55b1
        try clear c56
        try clear c56b0
        try clear c57
        try clear c57b0
        try clear c57b1
        try clear c58
        try clear c58b0
        try clear c59
        try clear c59b0
        try clear c62
        try clear c62b0
        try clear c62b1
        try clear c63
        try clear c63b0
        try clear c63b1
        try clear c63b2
        try clear p64
        try clear c65
        try clear c67
        try clear c69
        try clear c69b0
        try clear c69b1
        try clear c84
        try clear c84b0
        try clear c84b1
        try clear c84b2
        try clear c86
        try clear c87
        try clear c87b0
        try clear c87b1
        try clear c87b2
        try clear c89
        try clear c91
        try clear c93
        try clear hx409_0
        try clear hx410_0
        try clear hx411_0
        try clear hx412_0
        try clear hx413_0
        try clear hx414_0
        try clear hx415_0
        try clear hx416_0
        try clear p2
        try clear p4
        try clear p40
        try clear p409
        try clear p41
        try clear p410
        try clear p411
        try clear p412
        try clear p413
        try clear p414
        try clear p415
        try clear p416
        try clear p6
        try clear p64
        try clear q4
        try clear q40
        try clear q409
        try clear q41
        try clear q410
        try clear q411
        try clear q412
        try clear q413
        try clear q414
        try clear q415
        try clear q416
        obtain ⟨kq, x278_76, rfl, HA, HJ76, HO_26, HO_27, HO_31, HB⟩ := hcut
        cases kq with
        | zero => exact absurd HA.out (by simp [laws_FnBitsKeepSums.j4])
        | succ kj76 =>
         have H := HA.out
         clear HA
         simp only [laws_FnBitsKeepSums.j4] at H
         by_cases c94 : x278_76 = true
         ·subst c94
          have H1 := H
          rw [if_pos rfl] at H1
          clear H
          have H := H1
          clear H1
          exact absurd ((Option.some.inj H).trans HRT.out) (by decide)
         ·replace c94 := Bool.eq_false_iff.mpr c94
          subst c94
          have H1 := H
          rw [if_neg (show ¬ (false = true) by decide)] at H1
          clear H
          have H := H1
          clear H1
          by_cases c95 : t428 = true
          ·subst c95
           have H1 := H
           rw [if_pos rfl] at H1
           clear H
           have H := H1
           clear H1
           have H' := Aside0.mk H
           clear H
           obtain ⟨Ao96, co96, eo96⟩ := Kd.R_slice HO_27.out
           subst eo96
           go_wp2
           go_loopg [35, 36, 282] kj76 (fun kq v35 v36 v282 w' => ∃ (x35_4 : Int) (x36_4 : Int) (x282_4 : Int), v35 = .int .i64 x35_4 ∧ v36 = .int .i64 x36_4 ∧ v282 = .int .i64 x282_4 ∧ Aside0 (laws_FnBitsKeepSums.l1 kq t423 t424 t435 x35_4 x36_4 t427 (t427.length : Int) x282_4 = some r) ∧ Aside0 (kq ≤ kj76) ∧ Aside0 (Kd.R (Kd.int .i64) 3 w' w.heap.size (fun k_ => some k_ ≠ ((.slice Ao96 t427.length co96) : Value).ownBlock) (.slice Ao79 t424.length co79) t424) ∧ Aside0 (Kd.S (Kd.slice 3 (Kd.int .i64)) 26 w' w.heap.size (fun k_ => some k_ ≠ ((.slice Ao79 t424.length co79) : Value).ownBlock ∧ some k_ ≠ ((.slice Ao96 t427.length co96) : Value).ownBlock) v437 t435) ∧ Aside0 (Kd.R (Kd.int .i64) 3 w' w.heap.size (fun k_ => some k_ ≠ ((.slice Ao79 t424.length co79) : Value).ownBlock) (.slice Ao96 t427.length co96) t427) ∧ Aside0 (Below w.heap.size w w'))
           case atStart => exact ⟨(0), (0), (0), (by first | rfl | (simp; done) | (simp [*]; done)), (by first | rfl | (simp; done) | (simp [*]; done)), (by first | rfl | (simp; done) | (simp [*]; done)), H', ⟨Nat.le_refl _⟩, ⟨by (with_reducible repeat (first | apply Kd.R_alloc | apply Kd.R_drewN | apply Kd.R_drew)); exact HO_26.out⟩, ⟨by (with_reducible repeat (first | apply Kd.S_alloc | apply Kd.S_drewN | apply Kd.S_drew)); exact HO_31.out⟩, ⟨by (with_reducible repeat (first | apply Kd.R_alloc | apply Kd.R_drewN | apply Kd.R_drew)); exact HO_27.out⟩, ⟨by repeat (first | (with_reducible first | exact HB.out | apply below_alloc | apply pw_below_drewN | apply below_drew1) | exact HB.out)⟩⟩
           case round =>
            clear H'
            try clear c1
            try clear c2
            try clear p2
            try clear c3
            try clear c4
            try clear p4
            try clear q4
            try clear hx4
            try clear c5
            try clear c6
            try clear p6
            try clear c8
            try clear c9
            try clear c11
            try clear c21
            try clear c21b0
            try clear c21b1
            try clear c21b2
            try clear c23
            try clear c24
            try clear c24b0
            try clear c24b1
            try clear c24b2
            try clear c26
            try clear c27
            try clear c27b0
            try clear c27b1
            try clear c27b2
            try clear c28
            try clear c28b0
            try clear c28b1
            try clear c30
            try clear c30b0
            try clear c30b1
            try clear c30b2
            try clear c33
            try clear c33b0
            try clear c33b1
            try clear c33b2
            try clear c34
            try clear c34b0
            try clear c34b1
            try clear c34b2
            try clear p40
            try clear q40
            try clear hx40
            try clear c41
            try clear p41
            try clear q41
            try clear hx41
            try clear c43
            try clear c45
            try clear c45b0
            try clear c46
            try clear c46b0
            try clear c47
            try clear c47b0
            try clear c48
            try clear c48b0
            try clear c49
            try clear c49b0
            try clear c49b1
            try clear c50
            try clear c50b0
            try clear c51
            try clear c51b0
            try clear c51b1
            try clear c52
            try clear c52b0
            try clear c53
            try clear c53b0
            try clear c55
            try clear c55b0
            try clear c55b1
            try clear c56
            try clear c56b0
            try clear c57
            try clear c57b0
            try clear c57b1
            try clear c58
            try clear c58b0
            try clear c59
            try clear c59b0
            try clear c62
            try clear c62b0
            try clear c62b1
            try clear c63
            try clear c63b0
            try clear c63b1
            try clear c63b2
            try clear p64
            try clear c65
            try clear c67
            try clear c69
            try clear c69b0
            try clear c69b1
            try clear c84
            try clear c84b0
            try clear c84b1
            try clear c84b2
            try clear c86
            try clear c87
            try clear c87b0
            try clear c87b1
            try clear c87b2
            try clear c89
            try clear c91
            try clear c93
            try clear c94
            try clear c95
            try clear c96
            try clear hx409_0
            try clear hx410_0
            try clear hx411_0
            try clear hx412_0
            try clear hx413_0
            try clear hx414_0
            try clear hx415_0
            try clear hx416_0
            try clear p2
            try clear p4
            try clear p40
            try clear p409
            try clear p41
            try clear p410
            try clear p411
            try clear p412
            try clear p413
            try clear p414
            try clear p415
            try clear p416
            try clear p6
            try clear p64
            try clear q4
            try clear q40
            try clear q409
            try clear q41
            try clear q410
            try clear q411
            try clear q412
            try clear q413
            try clear q414
            try clear q415
            try clear q416
            obtain ⟨x35_4, x36_4, x282_4, rfl, rfl, rfl, HA, HK4, HO_26, HO_31, HO_280, HB⟩ := hrel
            cases gk with
            | zero => exact absurd HA.out (by simp [laws_FnBitsKeepSums.l1])
            | succ k4 =>
             have H := HA.out
             clear HA
             simp only [laws_FnBitsKeepSums.l1] at H
             by_cases c97 : x282_4 < (t427.length : Int)
             ·rw [if_pos c97] at H
              have c97b0 : decide (x282_4 < (t427.length : Int)) = true := decide_eq_true c97
              clear c97
              by_cases c98 : 0 ≤ x282_4
              ·rw [if_pos c98] at H
               have c98b0 : decide (0 ≤ x282_4) = true := decide_eq_true c98
               clear c98
               by_cases c99 : x282_4 < (t427.length : Int)
               ·rw [if_pos c99] at H
                have c99b0 : decide (x282_4 < (t427.length : Int)) = true := decide_eq_true c99
                clear c99
                by_cases c100 : (((rd t427 x282_4) == 1) != (decide (x36_4 ≥ 0))) = true
                ·rw [if_pos c100] at H
                 have c100b0 : (((rd t427 x282_4) == 1) != (decide (x36_4 ≥ 0))) = true := c100
                 (try (have c100b1 : decide (((rd t427 x282_4) == 1) = (decide (x36_4 ≥ 0))) = false := by simpa using c100))
                 (try (have c100b2 : (((rd t427 x282_4) == 1) == (decide (x36_4 ≥ 0))) = false := by simpa using c100))
                 (try (have c100b3 : ¬ (((rd t427 x282_4) == 1) = (decide (x36_4 ≥ 0))) := by simpa using c100))
                 clear c100
                 exact absurd ((Option.some.inj H).trans HRT.out) (by decide)
                ·rw [if_neg c100] at H
                 have c100b0 : (((rd t427 x282_4) == 1) != (decide (x36_4 ≥ 0))) = false := by simpa using c100
                 (try (have c100b1 : decide (((rd t427 x282_4) == 1) = (decide (x36_4 ≥ 0))) = true := by simpa using c100))
                 (try (have c100b2 : (((rd t427 x282_4) == 1) == (decide (x36_4 ≥ 0))) = true := by simpa using c100))
                 clear c100
                 by_cases c101 : x282_4 < (t424.length : Int)
                 ·rw [if_pos c101] at H
                  have c101b0 : decide (x282_4 < (t424.length : Int)) = true := decide_eq_true c101
                  clear c101
                  by_cases c102 : x282_4 < (t435.length : Int)
                  ·rw [if_pos c102] at H
                   have c102b0 : decide (x282_4 < (t435.length : Int)) = true := decide_eq_true c102
                   clear c102
                   obtain ⟨y448, hy448⟩ : ∃ y_ : List Int, y_ = (([wrap64 (x35_4 + (wrap64 ((rd t424 x282_4) - (wrap64 (t423 * (rd t427 x282_4)))))), wrap64 (x36_4 + (wrap64 ((wrap64 (x35_4 + (wrap64 ((rd t424 x282_4) - (wrap64 (t423 * (rd t427 x282_4))))))) - (wrap64 (t423 * (rd t427 x282_4))))))] : List Int)) := ⟨_, rfl⟩
                   replace H : ((laws_iSame.f k4 (rd_L2 t435 x282_4) y448).bind fun t451 => (if t451 = true then (laws_FnBitsKeepSums.l1 k4 t423 t424 t435 (wrap64 (x35_4 + (wrap64 ((rd t424 x282_4) - (wrap64 (t423 * (rd t427 x282_4))))))) (wrap64 (x36_4 + (wrap64 ((wrap64 (x35_4 + (wrap64 ((rd t424 x282_4) - (wrap64 (t423 * (rd t427 x282_4))))))) - (wrap64 (t423 * (rd t427 x282_4))))))) t427 (t427.length : Int) (wrap64 (x282_4 + 1))) else (some false))) = some r := by first | (rw [hy448]; with_reducible exact H) | (have H2_ := (Option.bind_some _ _).symm.trans H; rw [hy448]; with_reducible exact H2_) | (have H2_ := (Option.bind_some _ _).symm.trans H; with_reducible exact H2_) | with_reducible exact H | (rw [hy448]; exact H) | exact H
                   have Ny448 := Aside0.mk hy448
                   clear hy448
                   replace H := Option.bind_eq_some_iff.mp H
                   obtain ⟨t451, A1030, H⟩ := H
                   (try dsimp only at H)
                   have A103 := Aside0.mk A1030
                   clear A1030
                   by_cases c104 : t451 = true
                   ·subst c104
                    have H1 := H
                    rw [if_pos rfl] at H1
                    clear H
                    have H := H1
                    clear H1
                    have H' := Aside0.mk H
                    clear H
                    have p445 : 0 ≤ (x282_4 : Int) := of_decide_eq_true (by first | (with_reducible assumption) | assumption)
                    have q445 : x282_4 < (t427.length : Int) := of_decide_eq_true (by first | (with_reducible assumption) | assumption)
                    obtain ⟨ad445, e445, hx445_0⟩ := Kd.at_int (Kd.R_reads' HO_280.out).2.2 x282_4 p445 q445
                    cases e445
                    replace p445 := eq_true p445
                    replace q445 := eq_true q445
                    have p446 : 0 ≤ (x282_4 : Int) := of_decide_eq_true (by first | (with_reducible assumption) | assumption)
                    have q446 : x282_4 < (t424.length : Int) := of_decide_eq_true (by first | (with_reducible assumption) | assumption)
                    obtain ⟨ad446, e446, hx446_0⟩ := Kd.at_int (Kd.R_reads' HO_26.out).2.2 x282_4 p446 q446
                    cases e446
                    replace p446 := eq_true p446
                    replace q446 := eq_true q446
                    obtain ⟨Ao105, co105, eo105⟩ := Kd.S_slice HO_31.out
                    subst eo105
                    have p447 : 0 ≤ (x282_4 : Int) := of_decide_eq_true (by first | (with_reducible assumption) | assumption)
                    have q447 : x282_4 < (t435.length : Int) := of_decide_eq_true (by first | (with_reducible assumption) | assumption)
                    obtain ⟨ad447, A447_0, c447_0, e447, hx447_0, hl447_0, hi447_0⟩ := at_L2 (Kd.S_reads' HO_31.out).2.2 x282_4 p447 q447
                    cases e447
                    obtain ⟨ce447, hce447, hMe447, hcc447⟩ := Kd.S_get HO_31.out [] x282_4 p447 (by first | exact q447 | exact of_decide_eq_true (by first | (with_reducible assumption) | assumption) | (have e_ := (Kd.S_reads' HO_31.out).1; omega))
                    obtain ⟨ve447_0, rfl, ge447_0⟩ := hMe447
                    have hv447_0 := hcc447 0 _ rfl
                    rw [Nat.add_zero, show ((Kd.slice 3 (Kd.int .i64))).sz = 1 from rfl, Nat.mul_one] at hv447_0
                    replace hv447_0 := Option.some.inj (hv447_0.symm.trans hx447_0)
                    rw [hv447_0] at ge447_0
                    have HL447_0 := Aside0.mk (show Kd.R (Kd.int .i64) 3 _ _ _ _ (rd_L2 t435 x282_4) from ge447_0)
                    clear hv447_0 ge447_0
                    clear hcc447 hce447
                    have HR447_0 := Aside0.mk hi447_0
                    have HC447_0 := Aside0.mk hl447_0
                    clear hi447_0 hl447_0
                    replace p447 := eq_true p447
                    replace q447 := eq_true q447
                    go_wp2_with (first | ((with_reducible refine gate_dst (N := 315) rfl ?_); (try (refine gate_guard (by rfl) ?_; dsimp only)); refine Kd.R_lit (Kd.int .i64) _ 3 ?hg (N := 315) ?hd (xs := ([wrap64 (x35_4 + (wrap64 ((rd t424 x282_4) - (wrap64 (t423 * (rd t427 x282_4)))))), wrap64 (x36_4 + (wrap64 ((wrap64 (x35_4 + (wrap64 ((rd t424 x282_4) - (wrap64 (t423 * (rd t427 x282_4))))))) - (wrap64 (t423 * (rd t427 x282_4))))))] : List Int)) (inner := [.int .i64 (wrap64 (x35_4 + (wrap64 ((rd t424 x282_4) - (wrap64 (t423 * (rd t427 x282_4))))))), .int .i64 (wrap64 (x36_4 + (wrap64 ((wrap64 (x35_4 + (wrap64 ((rd t424 x282_4) - (wrap64 (t423 * (rd t427 x282_4))))))) - (wrap64 (t423 * (rd t427 x282_4)))))))]) (ok := fun _ => True) (okp := fun _ => True) ?hr ?hp (fun _ hk => hk) trivial (Below.refl _ _) (Nat.le_refl _) (by simp) ?_; (case hd => rfl); (case hg => rfl); (case hr => first | (go_simp; done) | (go_simp; rfl)); (case hp => exact (Reps.one (show Kd.M (Kd.int .i64) _ _ _ (wrap64 (x35_4 + (wrap64 ((rd t424 x282_4) - (wrap64 (t423 * (rd t427 x282_4))))))) [.int .i64 (wrap64 (x35_4 + (wrap64 ((rd t424 x282_4) - (wrap64 (t423 * (rd t427 x282_4)))))))] from rfl) (Reps.one (show Kd.M (Kd.int .i64) _ _ _ (wrap64 (x36_4 + (wrap64 ((wrap64 (x35_4 + (wrap64 ((rd t424 x282_4) - (wrap64 (t423 * (rd t427 x282_4))))))) - (wrap64 (t423 * (rd t427 x282_4))))))) [.int .i64 (wrap64 (x36_4 + (wrap64 ((wrap64 (x35_4 + (wrap64 ((rd t424 x282_4) - (wrap64 (t423 * (rd t427 x282_4))))))) - (wrap64 (t423 * (rd t427 x282_4)))))))] from rfl) (Reps.none _ _)))); intro v449 w106 ho107 hb hg_ hnew_; clear hg_ hnew_; (first | rw [← Ny448.out] at ho107 | (simp only [Int.reduceToNat] at ho107; rw [← Ny448.out] at ho107)); have n0_ := Aside0.mk (Kd.R_elder' (by (with_reducible repeat (first | apply Kd.R_alloc | apply Kd.R_drewN | apply Kd.R_drew)); exact HO_26.out) (Kd.R_base ho107) hb); have n1_ := Aside0.mk (Kd.S_elder' (by (with_reducible repeat (first | apply Kd.S_alloc | apply Kd.S_drewN | apply Kd.S_drew)); exact HO_31.out) (Kd.R_base ho107) hb); have n2_ := Aside0.mk (Kd.R_elder' (by (with_reducible repeat (first | apply Kd.R_alloc | apply Kd.R_drewN | apply Kd.R_drew)); exact HO_280.out) (Kd.R_base ho107) hb); have n3_ := Aside0.mk (Kd.R_elder' (by (with_reducible repeat (first | apply Kd.R_alloc | apply Kd.R_drewN | apply Kd.R_drew)); exact HL447_0.out) (Kd.R_base ho107) hb); have n4_ := Aside0.mk (Kd.R_lower (Kd.R_new' (Kd.R_new' (Kd.R_new' ho107 (Kd.R_lt (by (with_reducible repeat (first | apply Kd.R_alloc | apply Kd.R_drewN | apply Kd.R_drew)); exact HO_26.out))) (Kd.R_lt (by (with_reducible repeat (first | apply Kd.R_alloc | apply Kd.R_drewN | apply Kd.R_drew)); exact HO_280.out))) (Kd.R_lt (by (with_reducible repeat (first | apply Kd.R_alloc | apply Kd.R_drewN | apply Kd.R_drew)); exact HL447_0.out))) (below_size (by repeat (first | (with_reducible first | exact HB.out | apply below_alloc | apply pw_below_drewN | apply below_drew1) | exact HB.out)))); have n5_ := Aside0.mk (Kd.C_below (by repeat (first | (with_reducible exact HR447_0.out) | (with_reducible refine Kd.C_alloc ?_ _) | (with_reducible refine Kd.C_drewN ?_ _) | (with_reducible refine Kd.C_drew ?_) | exact HR447_0.out)) hb); have n6_ := Aside0.mk (below_step (by repeat (first | (with_reducible first | exact HB.out | apply below_alloc | apply pw_below_drewN | apply below_drew1) | exact HB.out)) hb); clear HO_26; clear HO_31; clear HO_280; clear HL447_0; clear HR447_0; clear HB; have HO_26 := n0_; have HO_31 := n1_; have HO_280 := n2_; have HL447_0 := n3_; have HO450 := n4_; have HR447_0 := n5_; have HB := n6_; clear n0_ n1_ n2_ n3_ n4_ n5_ n6_; clear hb ho107; obtain ⟨Ao108, co108, eo108⟩ := Kd.R_slice HO450.out; subst eo108) | ((with_reducible refine gate_callee (f := 52) rfl ?_); refine goesL_ (some 316) rfl rfl Try.func52 (by kernel_rfl) rfl #[.slice A447_0 (rd_L2 t435 x282_4).length c447_0, .slice Ao108 y448.length co108] rfl (by (try simp only [List.map_toArray, List.map_cons, List.map_nil]); first | done | rfl | (simp only [List.length_drop, List.length_take]; rfl)) ?_; (with_reducible refine (laws_iSame.calls k4 _ _ (rd_L2 t435 x282_4) _ _ y448 true _ ?side1 ?side2 ?side3 ?side4 A103.out).mono ?_); (case side1 => repeat (first | exact (by repeat (first | (with_reducible exact HR447_0.out) | (with_reducible refine Kd.C_alloc ?_ _) | (with_reducible refine Kd.C_drewN ?_ _) | (with_reducible refine Kd.C_drew ?_) | exact HR447_0.out)) | (with_reducible refine Kd.C_alloc ?_ _) | (with_reducible refine Kd.C_drewN ?_ _) | (with_reducible refine Kd.C_drew ?_))); (case side2 => exact HC447_0.out); (case side3 => repeat (first | exact (Kd.R_reads' HO450.out).2.2 | (with_reducible refine Kd.C_alloc ?_ _) | (with_reducible refine Kd.C_drewN ?_ _) | (with_reducible refine Kd.C_drew ?_))); (case side4 => exact (Kd.R_reads' HO450.out).2.1); rintro e w' ⟨rfl, ⟨nd, rfl⟩⟩; refine ⟨_, rfl, ?_⟩))
                    go_roundg k4
                    case measure => have := HJ11.out; have := HJ41.out; have := HJ76.out; have := HK4.out; omega
                    case rel => exact ⟨(wrap64 (x35_4 + (wrap64 ((rd t424 x282_4) - (wrap64 (t423 * (rd t427 x282_4))))))), (wrap64 (x36_4 + (wrap64 ((wrap64 (x35_4 + (wrap64 ((rd t424 x282_4) - (wrap64 (t423 * (rd t427 x282_4))))))) - (wrap64 (t423 * (rd t427 x282_4))))))), (wrap64 (x282_4 + 1)), (by first | rfl | (simp; done) | (simp [*]; done)), (by first | rfl | (simp; done) | (simp [*]; done)), (by first | rfl | (simp; done) | (simp [*]; done)), H', ⟨by have := HJ11.out; have := HJ41.out; have := HJ76.out; have := HK4.out; omega⟩, ⟨by (with_reducible repeat (first | apply Kd.R_alloc | apply Kd.R_drewN | apply Kd.R_drew)); exact Kd.R_mono HO_26.out (fun _ hk => hk.1)⟩, ⟨by (with_reducible repeat (first | apply Kd.S_alloc | apply Kd.S_drewN | apply Kd.S_drew)); exact Kd.S_mono HO_31.out (fun _ hk => ⟨hk.1.1, hk.1.2⟩)⟩, ⟨by (with_reducible repeat (first | apply Kd.R_alloc | apply Kd.R_drewN | apply Kd.R_drew)); exact Kd.R_mono HO_280.out (fun _ hk => hk.1)⟩, ⟨by repeat (first | (with_reducible first | exact HB.out | apply below_alloc | apply pw_below_drewN | apply below_drew1) | exact HB.out)⟩⟩
                   ·replace c104 := Bool.eq_false_iff.mpr c104
                    subst c104
                    have H1 := H
                    rw [if_neg (show ¬ (false = true) by decide)] at H1
                    clear H
                    have H := H1
                    clear H1
                    exact absurd ((Option.some.inj H).trans HRT.out) (by decide)
                  ·rw [if_neg c102] at H
                   exact absurd H (by simp)
                 ·rw [if_neg c101] at H
                  exact absurd H (by simp)
               ·rw [if_neg c99] at H
                exact absurd H (by simp)
              ·rw [if_neg c98] at H
               exact absurd H (by simp)
             ·rw [if_neg c97] at H
              have c97b0 : decide (x282_4 < (t427.length : Int)) = false := decide_eq_false c97
              clear c97
              obtain rfl := Option.some.inj H
              go_wp2
              go_ret
              exact ⟨by first | rfl | (simp [errW_none, errW_some] <;> rfl) | (simp [*, errW_none, errW_some] <;> rfl), by repeat (first | (with_reducible first | exact HB.out | apply below_alloc | apply pw_below_drewN | apply below_drew1) | exact HB.out)⟩
          ·replace c95 := Bool.eq_false_iff.mpr c95
           subst c95
           have H1 := H
           rw [if_neg (show ¬ (false = true) by decide)] at H1
           clear H
           have H := H1
           clear H1
           obtain rfl := Option.some.inj H
           go_wp2
           go_ret
           exact ⟨by first | rfl | (simp [errW_none, errW_some] <;> rfl) | (simp [*, errW_none, errW_some] <;> rfl), by repeat (first | (with_reducible first | exact HB.out | apply below_alloc | apply pw_below_drewN | apply below_drew1) | exact HB.out)⟩

/-- THE ONE PURE STATEMENT of laws_FnBitsKeepSums: yours. -/
def laws_FnBitsKeepSums.Pure : Prop := ∀ (l0 : List Int) (l1 : List Int), l0.length ≤ maxLen → l0.length * 1 ≤ 140737488351232 → (∀ x ∈ l0, (Lit.int .u8 x).wf = true) → l1.length ≤ maxLen → l1.length * 1 ≤ 140737488351232 → (∀ x ∈ l1, (Lit.int .u8 x).wf = true) → ∃ k, laws_FnBitsKeepSums.f k l0 l1 = some true
theorem laws_FnBitsKeepSums.walk (P : laws_FnBitsKeepSums.Pure) (a0 : Option Addr) (len0 cap0 : Nat) (z0 : List Int) (a1 : Option Addr) (len1 cap1 : Nat) (z1 : List Int) (w : World) (w0 : (a0 = none ∧ len0 = 0 ∧ cap0 = 0 ∧ z0 = []) ∨ ∃ x, a0 = some x ∧ len0 ≤ cap0 ∧ cap0 ≤ maxLen ∧ z0.length = cap0 ∧ (∀ i, i < z0.length → w.cell? (x.add i) = some (.int .u8 (z0.getD i 0))) ∧ ∀ n ∈ z0, (Lit.int .u8 n).wf = true) (y0 : len0 * 1 ≤ 140737488351232) (w1 : (a1 = none ∧ len1 = 0 ∧ cap1 = 0 ∧ z1 = []) ∨ ∃ x, a1 = some x ∧ len1 ≤ cap1 ∧ cap1 ≤ maxLen ∧ z1.length = cap1 ∧ (∀ i, i < z1.length → w.cell? (x.add i) = some (.int .u8 (z1.getD i 0))) ∧ ∀ n ∈ z1, (Lit.int .u8 n).wf = true) (y1 : len1 * 1 ≤ 140737488351232) :
  Calls Try.prog 11 #[.slice a0 len0 cap0, .slice a1 len1 cap1] w fun e w' => e = .returned (.bool true) ∧ Below w.heap.size w w' := by
 obtain ⟨l0, rfl, hr0, hm0, hw0, hc0⟩ := ReadsInt.ofRowC w0
 obtain ⟨l1, rfl, hr1, hm1, hw1, hc1⟩ := ReadsInt.ofRowC w1
 obtain ⟨k, h⟩ := P l0 l1 hm0 y0 hw0 hm1 y1 hw1
 refine (laws_FnBitsKeepSums.calls k _ _ l0 _ _ l1 true w (Kd.C_of_reads (d := (0 : Int)) (h1 := fun _ => rfl) hr0) hc0 (Kd.C_of_reads (d := (0 : Int)) (h1 := fun _ => rfl) hr1) hc1 h rfl).mono ?_
 rintro e w' ⟨rfl, hd⟩
 exact ⟨rfl, hd⟩

end Go.Proofs.Ythpdpbjgdndnmaa.PFnBitsKeepSums
