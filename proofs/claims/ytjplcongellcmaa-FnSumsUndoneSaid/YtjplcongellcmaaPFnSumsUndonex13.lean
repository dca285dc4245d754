/- What each Go function that the statement FnSumsUndone reaches answers, proved call by call. No condition beyond those that the theorems print. (Written by wip/tools/xprint.py of this repo, over the kit's print.) -/
import Derived.Test.YtjplcongellcmaaPFnSumsUndonex0
import Derived.Test.YtjplcongellcmaaPFnSumsUndonex1
import Derived.Test.YtjplcongellcmaaPFnSumsUndonex2
import Derived.Test.YtjplcongellcmaaPFnSumsUndonex3
import Derived.Test.YtjplcongellcmaaPFnSumsUndonex4
import Derived.Test.YtjplcongellcmaaPFnSumsUndonex5
import Derived.Test.YtjplcongellcmaaPFnSumsUndonex6
import Derived.Test.YtjplcongellcmaaPFnSumsUndonex7
import Derived.Test.YtjplcongellcmaaPFnSumsUndonex8
import Derived.Test.YtjplcongellcmaaPFnSumsUndonex9
import Derived.Test.YtjplcongellcmaaPFnSumsUndonex10
import Derived.Test.YtjplcongellcmaaPFnSumsUndonex11
import Derived.Test.YtjplcongellcmaaPFnSumsUndonex12
namespace Go.Proofs.Ytjplcongellcmaa.PFnSumsUndone
open Go.RowKit Go.Proofs.YtjplcongellcmaaW.PrintWords Go.Proofs.YtjplcongellcmaaW.PrintLast Go.Proofs.YtjplcongellcmaaW.PrintMore
attribute [local go_sem] max2_int min2_int max_two min_two max_three min_three max_four min_four   -- for this text's walks alone
set_option linter.unusedVariables false
set_option linter.unusedSimpArgs false

/-! ### laws_FnSumsUndone: function 12 -/
mutual
def laws_FnSumsUndone.j0 : Nat → List Int → List Int → Int → Int → List Int → Bool → List Int → Int → Bool → Option (Bool)
 | 0, _, _, _, _, _, _, _, _, _ => none
 | k + 1, x1, x5, x6, x7, x8, x9, x12, x16, x168 => if x168 = true then (some false) else (if x9 = true then ((impl_WrappedCombs.f k x8 x6 x7).bind fun bt608 => (if bt608.2 = true then (laws_FnSumsUndone.l0 k x1 x5 x6 x7 x8 x12 x16 bt608.1 x5 (x5.length : Int) 0) else (laws_FnSumsUndone.j2 k x1 x5 x6 x7 x8 x12 x16))) else (laws_FnSumsUndone.j6 k x1))
def laws_FnSumsUndone.j6 : Nat → List Int → Option (Bool)
 | 0, _ => none
 | k + 1, x1 => (spec_DrawBoxAnswer.f x1).bind fun bt627 => ((impl_BoxAnswer.f k bt627.1 bt627.2).bind fun bt629 => ((spec_BoxAnswer.f k bt627.1 bt627.2).bind fun bt633 => ((impl_CombGain.f k bt627.1 bt627.2).bind fun bt637 => ((spec_CombGain.f k bt627.1 bt627.2).bind fun bt639 => ((impl_BoxDroop.f k bt627.1 bt627.2).bind fun bt641 => ((spec_BoxDroop.f k bt627.1 bt627.2).bind fun bt644 => (if (bt629.2 != bt633.2) = true then (laws_FnSumsUndone.j7 k x1 bt627.1 bt627.2 bt629.1 bt629.2 bt637.1 bt641.1 bt641.2.1 true) else ((laws_iSame.f k bt629.1 bt633.1).bind fun t647 => (if t647 = true then (if (bt637.2 != bt639.2) = true then (laws_FnSumsUndone.j7 k x1 bt627.1 bt627.2 bt629.1 bt629.2 bt637.1 bt641.1 bt641.2.1 true) else (if bt637.1 = bt639.1 then (if (bt641.2.2 != bt644.2.2) = true then (laws_FnSumsUndone.j7 k x1 bt627.1 bt627.2 bt629.1 bt629.2 bt637.1 bt641.1 bt641.2.1 true) else (if bt641.1 = bt644.1 then (if bt641.2.1 = bt644.2.1 then (if (bt637.2 != bt629.2) = true then (laws_FnSumsUndone.j7 k x1 bt627.1 bt627.2 bt629.1 bt629.2 bt637.1 bt641.1 bt641.2.1 true) else (laws_FnSumsUndone.j7 k x1 bt627.1 bt627.2 bt629.1 bt629.2 bt637.1 bt641.1 bt641.2.1 (bt641.2.2 != bt629.2))) else (laws_FnSumsUndone.j7 k x1 bt627.1 bt627.2 bt629.1 bt629.2 bt637.1 bt641.1 bt641.2.1 true)) else (laws_FnSumsUndone.j7 k x1 bt627.1 bt627.2 bt629.1 bt629.2 bt637.1 bt641.1 bt641.2.1 true))) else (laws_FnSumsUndone.j7 k x1 bt627.1 bt627.2 bt629.1 bt629.2 bt637.1 bt641.1 bt641.2.1 true))) else (laws_FnSumsUndone.j7 k x1 bt627.1 bt627.2 bt629.1 bt629.2 bt637.1 bt641.1 bt641.2.1 true))))))))))
def laws_FnSumsUndone.j7 : Nat → List Int → Int → Int → List Int → Bool → Int → Int → Int → Bool → Option (Bool)
 | 0, _, _, _, _, _, _, _, _, _ => none
 | k + 1, x1, x30, x31, x32, x33, x36, x40, x41, x322 => if x322 = true then (some false) else (if x33 = true then ((laws_iSum.f k x32).bind fun t648 => (if t648 = x36 then (if (x32.length : Int) = (wrap64 ((wrap64 (x30 * (wrap64 (x31 - 1)))) + 1)) then (if 0 < (x32.length : Int) then (if (rd x32 0) = 1 then (if ((x40 == 0) != ((Int.tmod x31 2) == 0)) = true then (laws_FnSumsUndone.j8 k x1 x32 true) else (if (Int.tmod x31 2) = 1 then (if x40 = 1 then (laws_FnSumsUndone.j8 k x1 x32 (x41 != x36)) else (laws_FnSumsUndone.j8 k x1 x32 true)) else (laws_FnSumsUndone.j8 k x1 x32 false))) else (laws_FnSumsUndone.j8 k x1 x32 true)) else (none)) else (laws_FnSumsUndone.j8 k x1 x32 true)) else (laws_FnSumsUndone.j8 k x1 x32 true))) else (laws_FnSumsUndone.j10 k x1))
def laws_FnSumsUndone.j10 : Nat → List Int → Option (Bool)
 | 0, _ => none
 | k + 1, x1 => (spec_DrawDropSamples.f k x1).bind fun bt652 => ((impl_DropSamples.f k bt652.1 bt652.2.1 bt652.2.2).bind fun bt657 => ((spec_DropSamples.f k bt652.1 bt652.2.1 bt652.2.2).bind fun bt661 => ((spec_DrawStuffZeros.f k x1).bind fun bt665 => ((impl_StuffZeros.f k bt665.1 bt665.2).bind fun bt669 => ((spec_StuffZeros.f k bt665.1 bt665.2).bind fun bt673 => (if (bt657.2 != bt661.2) = true then (laws_FnSumsUndone.j11 k x1 bt665.1 bt665.2 bt669.1 bt669.2 true) else ((laws_iSame.f k bt657.1 bt661.1).bind fun t677 => (if t677 = true then (if (bt669.2 != bt673.2) = true then (laws_FnSumsUndone.j11 k x1 bt665.1 bt665.2 bt669.1 bt669.2 true) else ((laws_iSame.f k bt669.1 bt673.1).bind fun t678 => (laws_FnSumsUndone.j11 k x1 bt665.1 bt665.2 bt669.1 bt669.2 (!t678)))) else (laws_FnSumsUndone.j11 k x1 bt665.1 bt665.2 bt669.1 bt669.2 true)))))))))
def laws_FnSumsUndone.j11 : Nat → List Int → List Int → Int → List Int → Bool → Bool → Option (Bool)
 | 0, _, _, _, _, _, _ => none
 | k + 1, x1, x54, x55, x56, x57, x441 => if x441 = true then (some false) else (if x57 = true then ((impl_DropSamples.f k x56 x55 0).bind fun bt679 => (if bt679.2 = true then ((laws_iSame.f k bt679.1 x54).bind fun t683 => (if t683 = true then ((laws_iSum.f k x56).bind fun t684 => ((laws_iSum.f k x54).bind fun t685 => (if t684 = t685 then (if (x56.length : Int) = (wrap64 (x55 * (x54.length : Int))) then (laws_FnSumsUndone.j12 k x1) else (some false)) else (some false)))) else (some false))) else (some false))) else (laws_FnSumsUndone.j12 k x1))
def laws_FnSumsUndone.j12 : Nat → List Int → Option (Bool)
 | 0, _ => none
 | k + 1, x1 => (spec_DrawMeanBlocks.f k x1).bind fun bt686 => ((impl_MeanBlocks.f k bt686.1 bt686.2.1 bt686.2.2).bind fun bt691 => ((spec_MeanBlocks.f k bt686.1 bt686.2.1 bt686.2.2).bind fun bt695 => ((spec_DrawBitsForComb.f x1).bind fun bt699 => ((impl_BitsForComb.f k bt699.1 bt699.2.1 bt699.2.2).bind fun bt702 => ((spec_BitsForComb.f k bt699.1 bt699.2.1 bt699.2.2).bind fun bt704 => (if (bt691.2 != bt695.2) = true then (laws_FnSumsUndone.j13 k bt699.1 bt699.2.1 bt699.2.2 bt702.1 bt702.2 true) else ((laws_iSame.f k bt691.1 bt695.1).bind fun t706 => (if t706 = true then (if (bt702.2 != bt704.2) = true then (laws_FnSumsUndone.j13 k bt699.1 bt699.2.1 bt699.2.2 bt702.1 bt702.2 true) else (if bt702.1 = bt704.1 then (if bt691.2 = true then (if bt686.2.1 = 0 then (none) else (laws_FnSumsUndone.j13 k bt699.1 bt699.2.1 bt699.2.2 bt702.1 bt702.2 ((bt691.1.length : Int) != (wrap64 ((bt686.1.length : Int) / bt686.2.1))))) else (laws_FnSumsUndone.j13 k bt699.1 bt699.2.1 bt699.2.2 bt702.1 bt702.2 false)) else (laws_FnSumsUndone.j13 k bt699.1 bt699.2.1 bt699.2.2 bt702.1 bt702.2 true))) else (laws_FnSumsUndone.j13 k bt699.1 bt699.2.1 bt699.2.2 bt702.1 bt702.2 true)))))))))
def laws_FnSumsUndone.j13 : Nat → Int → Int → Int → Int → Bool → Bool → Option (Bool)
 | 0, _, _, _, _, _, _ => none
 | k + 1, x69, x70, x71, x72, x73, x543 => if x543 = true then (some false) else (if x73 = true then ((impl_CombGain.f k x70 x71).bind fun bt707 => (if bt707.2 = true then (if 0 ≤ (wrap64 (x69 - 1)) then (if 0 ≤ (wrap64 (x72 - 1)) then (if (shl .i64 bt707.1 (wrap64 (x69 - 1))) ≤ (shl .i64 1 (wrap64 (x72 - 1))) then (if x72 = 2 then (some true) else (if 0 ≤ (wrap64 (x72 - 2)) then (some (decide ((shl .i64 bt707.1 (wrap64 (x69 - 1))) > (shl .i64 1 (wrap64 (x72 - 2)))))) else (none))) else (some false)) else (none)) else (none)) else (some false))) else (some true))
def laws_FnSumsUndone.j8 : Nat → List Int → List Int → Bool → Option (Bool)
 | 0, _, _, _ => none
 | k + 1, x1, x32, x365 => if x365 = true then (some false) else (laws_FnSumsUndone.l2 k x1 x32 (x32.length : Int) 0)
def laws_FnSumsUndone.l2 : Nat → List Int → List Int → Int → Int → Option (Bool)
 | 0, _, _, _, _ => none
 | k + 1, x1, x32, x367, x368 => if x368 < x367 then (if 0 ≤ x368 then (if x368 < (x32.length : Int) then (if 0 ≤ (wrap64 ((wrap64 ((x32.length : Int) - 1)) - x368)) then (if (wrap64 ((wrap64 ((x32.length : Int) - 1)) - x368)) < (x32.length : Int) then (if (rd x32 x368) = (rd x32 (wrap64 ((wrap64 ((x32.length : Int) - 1)) - x368))) then (laws_FnSumsUndone.l2 k x1 x32 x367 (wrap64 (x368 + 1))) else (some false)) else (none)) else (none)) else (none)) else (none)) else (laws_FnSumsUndone.j10 k x1)
def laws_FnSumsUndone.j2 : Nat → List Int → List Int → Int → Int → List Int → List Int → Int → Option (Bool)
 | 0, _, _, _, _, _, _, _ => none
 | k + 1, x1, x5, x6, x7, x8, x12, x16 => (impl_WrappedSums.f k x12 x6 x7).bind fun bt615 => (if bt615.2 = true then (laws_FnSumsUndone.l1 k x1 x5 x6 x7 x8 x16 bt615.1 x5 (x5.length : Int) 0) else (laws_FnSumsUndone.j4 k x1 x5 x7 x8 x16))
def laws_FnSumsUndone.j4 : Nat → List Int → List Int → Int → List Int → Int → Option (Bool)
 | 0, _, _, _, _, _ => none
 | k + 1, x1, x5, x7, x8, x16 => if x7 = 1 then (laws_FnSumsUndone.j5 k x1 x5 x8 (x16 == 0)) else (laws_FnSumsUndone.j5 k x1 x5 x8 false)
def laws_FnSumsUndone.j5 : Nat → List Int → List Int → List Int → Bool → Option (Bool)
 | 0, _, _, _, _ => none
 | k + 1, x1, x5, x8, x223 => if x223 = true then ((impl_RunningSums.f k x5).bind fun bt622 => (if bt622.2 = true then ((laws_iSame.f k bt622.1 x8).bind fun t626 => (if t626 = true then (laws_FnSumsUndone.j6 k x1) else (some false))) else (laws_FnSumsUndone.j6 k x1))) else (laws_FnSumsUndone.j6 k x1)
def laws_FnSumsUndone.l1 : Nat → List Int → List Int → Int → Int → List Int → Int → List Int → List Int → Int → Int → Option (Bool)
 | 0, _, _, _, _, _, _, _, _, _, _ => none
 | k + 1, x1, x5, x6, x7, x8, x16, x24, x202, x203, x204 => if x204 < x203 then (if 0 ≤ x204 then (if x204 < (x202.length : Int) then (if x204 < (x24.length : Int) then ((laws_iWrap.f (rd x202 x204) x6).bind fun t621 => (if (rd x24 x204) = t621 then (laws_FnSumsUndone.l1 k x1 x5 x6 x7 x8 x16 x24 x202 x203 (wrap64 (x204 + 1))) else (some false))) else (none)) else (none)) else (none)) else (laws_FnSumsUndone.j4 k x1 x5 x7 x8 x16)
def laws_FnSumsUndone.l0 : Nat → List Int → List Int → Int → Int → List Int → List Int → Int → List Int → List Int → Int → Int → Option (Bool)
 | 0, _, _, _, _, _, _, _, _, _, _, _ => none
 | k + 1, x1, x5, x6, x7, x8, x12, x16, x20, x178, x179, x180 => if x180 < x179 then (if 0 ≤ x180 then (if x180 < (x178.length : Int) then (if x180 < (x20.length : Int) then ((laws_iWrap.f (rd x178 x180) x6).bind fun t614 => (if (rd x20 x180) = t614 then (laws_FnSumsUndone.l0 k x1 x5 x6 x7 x8 x12 x16 x20 x178 x179 (wrap64 (x180 + 1))) else (some false))) else (none)) else (none)) else (none)) else (laws_FnSumsUndone.j2 k x1 x5 x6 x7 x8 x12 x16)
end
def laws_FnSumsUndone.f (k : Nat) (l0 : List Int) (l1 : List Int) : Option (Bool) := (laws_big.f l0 l1).bind fun t580 => (if t580 = true then (some true) else ((spec_DrawWrappedSums.f k l0).bind fun bt581 => ((impl_WrappedSums.f k bt581.1 bt581.2.1 bt581.2.2).bind fun bt586 => ((spec_WrappedSums.f k bt581.1 bt581.2.1 bt581.2.2).bind fun bt590 => ((impl_WrappedCombs.f k bt581.1 bt581.2.1 bt581.2.2).bind fun bt594 => ((spec_WrappedCombs.f k bt581.1 bt581.2.1 bt581.2.2).bind fun bt598 => ((impl_CountWraps.f k bt581.1 bt581.2.1 bt581.2.2).bind fun bt602 => ((spec_CountWraps.f k bt581.1 bt581.2.1 bt581.2.2).bind fun bt604 => (if (bt586.2 != bt590.2) = true then (laws_FnSumsUndone.j0 k l1 bt581.1 bt581.2.1 bt581.2.2 bt586.1 bt586.2 bt594.1 bt602.1 true) else ((laws_iSame.f k bt586.1 bt590.1).bind fun t606 => (if t606 = true then (if (bt594.2 != bt598.2) = true then (laws_FnSumsUndone.j0 k l1 bt581.1 bt581.2.1 bt581.2.2 bt586.1 bt586.2 bt594.1 bt602.1 true) else ((laws_iSame.f k bt594.1 bt598.1).bind fun t607 => (if t607 = true then (if (bt602.2 != bt604.2) = true then (laws_FnSumsUndone.j0 k l1 bt581.1 bt581.2.1 bt581.2.2 bt586.1 bt586.2 bt594.1 bt602.1 true) else (if bt602.1 = bt604.1 then (if (bt594.2 != bt586.2) = true then (laws_FnSumsUndone.j0 k l1 bt581.1 bt581.2.1 bt581.2.2 bt586.1 bt586.2 bt594.1 bt602.1 true) else (laws_FnSumsUndone.j0 k l1 bt581.1 bt581.2.1 bt581.2.2 bt586.1 bt586.2 bt594.1 bt602.1 (bt602.2 != bt586.2))) else (laws_FnSumsUndone.j0 k l1 bt581.1 bt581.2.1 bt581.2.2 bt586.1 bt586.2 bt594.1 bt602.1 true))) else (laws_FnSumsUndone.j0 k l1 bt581.1 bt581.2.1 bt581.2.2 bt586.1 bt586.2 bt594.1 bt602.1 true)))) else (laws_FnSumsUndone.j0 k l1 bt581.1 bt581.2.1 bt581.2.2 bt586.1 bt586.2 bt594.1 bt602.1 true))))))))))))
theorem laws_FnSumsUndone.mono_l : ∀ k, (∀ y0 y1 y2 y3 y4 y5 y6 y7 y8, LeO (laws_FnSumsUndone.j0 k y0 y1 y2 y3 y4 y5 y6 y7 y8) (laws_FnSumsUndone.j0 (k + 1) y0 y1 y2 y3 y4 y5 y6 y7 y8)) ∧ (∀ y0, LeO (laws_FnSumsUndone.j6 k y0) (laws_FnSumsUndone.j6 (k + 1) y0)) ∧ (∀ y0 y1 y2 y3 y4 y5 y6 y7 y8, LeO (laws_FnSumsUndone.j7 k y0 y1 y2 y3 y4 y5 y6 y7 y8) (laws_FnSumsUndone.j7 (k + 1) y0 y1 y2 y3 y4 y5 y6 y7 y8)) ∧ (∀ y0, LeO (laws_FnSumsUndone.j10 k y0) (laws_FnSumsUndone.j10 (k + 1) y0)) ∧ (∀ y0 y1 y2 y3 y4 y5, LeO (laws_FnSumsUndone.j11 k y0 y1 y2 y3 y4 y5) (laws_FnSumsUndone.j11 (k + 1) y0 y1 y2 y3 y4 y5)) ∧ (∀ y0, LeO (laws_FnSumsUndone.j12 k y0) (laws_FnSumsUndone.j12 (k + 1) y0)) ∧ (∀ y0 y1 y2 y3 y4 y5, LeO (laws_FnSumsUndone.j13 k y0 y1 y2 y3 y4 y5) (laws_FnSumsUndone.j13 (k + 1) y0 y1 y2 y3 y4 y5)) ∧ (∀ y0 y1 y2, LeO (laws_FnSumsUndone.j8 k y0 y1 y2) (laws_FnSumsUndone.j8 (k + 1) y0 y1 y2)) ∧ (∀ y0 y1 y2 y3, LeO (laws_FnSumsUndone.l2 k y0 y1 y2 y3) (laws_FnSumsUndone.l2 (k + 1) y0 y1 y2 y3)) ∧ (∀ y0 y1 y2 y3 y4 y5 y6, LeO (laws_FnSumsUndone.j2 k y0 y1 y2 y3 y4 y5 y6) (laws_FnSumsUndone.j2 (k + 1) y0 y1 y2 y3 y4 y5 y6)) ∧ (∀ y0 y1 y2 y3 y4, LeO (laws_FnSumsUndone.j4 k y0 y1 y2 y3 y4) (laws_FnSumsUndone.j4 (k + 1) y0 y1 y2 y3 y4)) ∧ (∀ y0 y1 y2 y3, LeO (laws_FnSumsUndone.j5 k y0 y1 y2 y3) (laws_FnSumsUndone.j5 (k + 1) y0 y1 y2 y3)) ∧ (∀ y0 y1 y2 y3 y4 y5 y6 y7 y8 y9, LeO (laws_FnSumsUndone.l1 k y0 y1 y2 y3 y4 y5 y6 y7 y8 y9) (laws_FnSumsUndone.l1 (k + 1) y0 y1 y2 y3 y4 y5 y6 y7 y8 y9)) ∧ (∀ y0 y1 y2 y3 y4 y5 y6 y7 y8 y9 y10, LeO (laws_FnSumsUndone.l0 k y0 y1 y2 y3 y4 y5 y6 y7 y8 y9 y10) (laws_FnSumsUndone.l0 (k + 1) y0 y1 y2 y3 y4 y5 y6 y7 y8 y9 y10))
 | 0 => ⟨fun _ _ _ _ _ _ _ _ _ r h => by simp [laws_FnSumsUndone.j0] at h, fun _ r h => by simp [laws_FnSumsUndone.j6] at h, fun _ _ _ _ _ _ _ _ _ r h => by simp [laws_FnSumsUndone.j7] at h, fun _ r h => by simp [laws_FnSumsUndone.j10] at h, fun _ _ _ _ _ _ r h => by simp [laws_FnSumsUndone.j11] at h, fun _ r h => by simp [laws_FnSumsUndone.j12] at h, fun _ _ _ _ _ _ r h => by simp [laws_FnSumsUndone.j13] at h, fun _ _ _ r h => by simp [laws_FnSumsUndone.j8] at h, fun _ _ _ _ r h => by simp [laws_FnSumsUndone.l2] at h, fun _ _ _ _ _ _ _ r h => by simp [laws_FnSumsUndone.j2] at h, fun _ _ _ _ _ r h => by simp [laws_FnSumsUndone.j4] at h, fun _ _ _ _ r h => by simp [laws_FnSumsUndone.j5] at h, fun _ _ _ _ _ _ _ _ _ _ r h => by simp [laws_FnSumsUndone.l1] at h, fun _ _ _ _ _ _ _ _ _ _ _ r h => by simp [laws_FnSumsUndone.l0] at h⟩
 | k + 1 => by
  obtain ⟨ih0, ih1, ih2, ih3, ih4, ih5, ih6, ih7, ih8, ih9, ih10, ih11, ih12, ih13⟩ := laws_FnSumsUndone.mono_l k
  have m0 := @impl_BitsForComb.mono
  have m1 := @impl_BoxAnswer.mono
  have m2 := @impl_BoxDroop.mono
  have m3 := @impl_CombGain.mono
  have m4 := @impl_CountWraps.mono
  have m5 := @impl_DropSamples.mono
  have m6 := @impl_MeanBlocks.mono
  have m7 := @impl_RunningSums.mono
  have m8 := @impl_StuffZeros.mono
  have m9 := @impl_WrappedCombs.mono
  have m10 := @impl_WrappedSums.mono
  have m11 := @laws_iSame.mono
  have m12 := @laws_iSum.mono
  have m13 := @spec_BitsForComb.mono
  have m14 := @spec_BoxAnswer.mono
  have m15 := @spec_BoxDroop.mono
  have m16 := @spec_CombGain.mono
  have m17 := @spec_CountWraps.mono
  have m18 := @spec_DrawDropSamples.mono
  have m19 := @spec_DrawMeanBlocks.mono
  have m20 := @spec_DrawStuffZeros.mono
  have m21 := @spec_DrawWrappedSums.mono
  have m22 := @spec_DropSamples.mono
  have m23 := @spec_MeanBlocks.mono
  have m24 := @spec_StuffZeros.mono
  have m25 := @spec_WrappedCombs.mono
  have m26 := @spec_WrappedSums.mono
  refine ⟨?_, ?_, ?_, ?_, ?_, ?_, ?_, ?_, ?_, ?_, ?_, ?_, ?_, ?_⟩ <;> intros
  ·unfold laws_FnSumsUndone.j0; exact xM
  ·unfold laws_FnSumsUndone.j6; exact xM
  ·unfold laws_FnSumsUndone.j7; exact xM
  ·unfold laws_FnSumsUndone.j10; exact xM
  ·unfold laws_FnSumsUndone.j11; exact xM
  ·unfold laws_FnSumsUndone.j12; exact xM
  ·unfold laws_FnSumsUndone.j13; exact xM
  ·unfold laws_FnSumsUndone.j8; exact xM
  ·unfold laws_FnSumsUndone.l2; exact xM
  ·unfold laws_FnSumsUndone.j2; exact xM
  ·unfold laws_FnSumsUndone.j4; exact xM
  ·unfold laws_FnSumsUndone.j5; exact xM
  ·unfold laws_FnSumsUndone.l1; exact xM
  ·unfold laws_FnSumsUndone.l0; exact xM
theorem laws_FnSumsUndone.mono : ∀ a0 a1 k, LeO (laws_FnSumsUndone.f k a0 a1) (laws_FnSumsUndone.f (k + 1) a0 a1) := by
 intro a0 a1 k
 obtain ⟨ih0, ih1, ih2, ih3, ih4, ih5, ih6, ih7, ih8, ih9, ih10, ih11, ih12, ih13⟩ := laws_FnSumsUndone.mono_l k
 have m0 := @impl_BitsForComb.mono
 have m1 := @impl_BoxAnswer.mono
 have m2 := @impl_BoxDroop.mono
 have m3 := @impl_CombGain.mono
 have m4 := @impl_CountWraps.mono
 have m5 := @impl_DropSamples.mono
 have m6 := @impl_MeanBlocks.mono
 have m7 := @impl_RunningSums.mono
 have m8 := @impl_StuffZeros.mono
 have m9 := @impl_WrappedCombs.mono
 have m10 := @impl_WrappedSums.mono
 have m11 := @laws_iSame.mono
 have m12 := @laws_iSum.mono
 have m13 := @spec_BitsForComb.mono
 have m14 := @spec_BoxAnswer.mono
 have m15 := @spec_BoxDroop.mono
 have m16 := @spec_CombGain.mono
 have m17 := @spec_CountWraps.mono
 have m18 := @spec_DrawDropSamples.mono
 have m19 := @spec_DrawMeanBlocks.mono
 have m20 := @spec_DrawStuffZeros.mono
 have m21 := @spec_DrawWrappedSums.mono
 have m22 := @spec_DropSamples.mono
 have m23 := @spec_MeanBlocks.mono
 have m24 := @spec_StuffZeros.mono
 have m25 := @spec_WrappedCombs.mono
 have m26 := @spec_WrappedSums.mono
 unfold laws_FnSumsUndone.f
 exact xM
end Go.Proofs.Ytjplcongellcmaa.PFnSumsUndone
