/- What each Go function that the statement FnRatesChanged reaches answers, proved call by call. No condition beyond those that the theorems print. (Written by wip/tools/xprint.py of this repo, over the kit's print.) -/
import Derived.Test.YtjplcongellcmaaPFnRatesChangedx0
import Derived.Test.YtjplcongellcmaaPFnRatesChangedx1
import Derived.Test.YtjplcongellcmaaPFnRatesChangedx2
import Derived.Test.YtjplcongellcmaaPFnRatesChangedx3
import Derived.Test.YtjplcongellcmaaPFnRatesChangedx4
import Derived.Test.YtjplcongellcmaaPFnRatesChangedx5
import Derived.Test.YtjplcongellcmaaPFnRatesChangedx6
import Derived.Test.YtjplcongellcmaaPFnRatesChangedx7
namespace Go.Proofs.Ytjplcongellcmaa.PFnRatesChanged
open Go.RowKit Go.Proofs.YtjplcongellcmaaW.PrintWords Go.Proofs.YtjplcongellcmaaW.PrintLast Go.Proofs.YtjplcongellcmaaW.PrintMore
attribute [local go_sem] max2_int min2_int max_two min_two max_three min_three max_four min_four   -- for this text's walks alone
set_option linter.unusedVariables false
set_option linter.unusedSimpArgs false

theorem xU {b : Bool} (h : some undef = some (Value.bool b)) : False := by cases h
/-! ### laws_FnRatesChanged: function 3 -/
mutual
def laws_FnRatesChanged.j0 : Nat → List Int → List Int → Int → Int → List Int → Bool → List Int → List Int → Bool → Bool → Option (Bool)
 | 0, _, _, _, _, _, _, _, _, _, _ => none
 | k + 1, x1, x5, x6, x7, x8, x9, x12, x16, x17, x159 => if x159 = true then (some false) else (if x9 = true then ((impl_LengthAfter.f (x5.length : Int) x6 x7).bind fun bt423 => (if bt423.2 = true then (if (x8.length : Int) = bt423.1 then (if (x12.length : Int) = bt423.1 then (if x17 = true then (laws_FnRatesChanged.j1 k x1 x5 x6 x7 x8 x12 x16 x17 ((x16.length : Int) != bt423.1)) else (laws_FnRatesChanged.j1 k x1 x5 x6 x7 x8 x12 x16 x17 false)) else (laws_FnRatesChanged.j1 k x1 x5 x6 x7 x8 x12 x16 x17 true)) else (laws_FnRatesChanged.j1 k x1 x5 x6 x7 x8 x12 x16 x17 true)) else (laws_FnRatesChanged.j1 k x1 x5 x6 x7 x8 x12 x16 x17 true))) else (laws_FnRatesChanged.j6 k x1))
def laws_FnRatesChanged.j6 : Nat → List Int → Option (Bool)
 | 0, _ => none
 | k + 1, x1 => (spec_DrawLengthAfter.f x1).bind fun bt459 => ((impl_LengthAfter.f bt459.1 bt459.2.1 bt459.2.2).bind fun bt462 => ((spec_LengthAfter.f bt459.1 bt459.2.1 bt459.2.2).bind fun bt464 => ((spec_DrawSourceOf.f x1).bind fun bt466 => ((impl_SourceOf.f bt466.1 bt466.2.1 bt466.2.2).bind fun bt469 => ((spec_SourceOf.f bt466.1 bt466.2.1 bt466.2.2).bind fun bt472 => ((spec_DrawLinesOfSame.f k x1).bind fun bt475 => ((impl_LinesOfSame.f k bt475.1 bt475.2).bind fun bt479 => ((spec_LinesOfSame.f k bt475.1 bt475.2).bind fun bt483 => ((spec_DrawLeastRatio.f x1).bind fun bt487 => ((impl_LeastRatio.f k bt487.1 bt487.2).bind fun bt489 => ((spec_LeastRatio.f k bt487.1 bt487.2).bind fun bt492 => (if (bt462.2 != bt464.2) = true then (laws_FnRatesChanged.j7 k bt475.1 bt475.2 bt479.1 bt479.2 true) else (if bt462.1 = bt464.1 then (if (bt469.2.2 != bt472.2.2) = true then (laws_FnRatesChanged.j7 k bt475.1 bt475.2 bt479.1 bt479.2 true) else (if bt469.1 = bt472.1 then (if bt469.2.1 = bt472.2.1 then (if (bt479.2 != bt483.2) = true then (laws_FnRatesChanged.j7 k bt475.1 bt475.2 bt479.1 bt479.2 true) else ((laws_iSame.f k bt479.1 bt483.1).bind fun t495 => (if t495 = true then (if (bt489.2.2 != bt492.2.2) = true then (laws_FnRatesChanged.j7 k bt475.1 bt475.2 bt479.1 bt479.2 true) else (if bt489.1 = bt492.1 then (if bt489.2.1 = bt492.2.1 then (if bt489.2.2 = true then (if (wrap64 (bt489.1 * bt487.2)) = (wrap64 (bt489.2.1 * bt487.1)) then ((laws_iCommon.f k bt489.1 bt489.2.1).bind fun t496 => (laws_FnRatesChanged.j7 k bt475.1 bt475.2 bt479.1 bt479.2 (t496 != 1))) else (laws_FnRatesChanged.j7 k bt475.1 bt475.2 bt479.1 bt479.2 true)) else (laws_FnRatesChanged.j7 k bt475.1 bt475.2 bt479.1 bt479.2 false)) else (laws_FnRatesChanged.j7 k bt475.1 bt475.2 bt479.1 bt479.2 true)) else (laws_FnRatesChanged.j7 k bt475.1 bt475.2 bt479.1 bt479.2 true))) else (laws_FnRatesChanged.j7 k bt475.1 bt475.2 bt479.1 bt479.2 true)))) else (laws_FnRatesChanged.j7 k bt475.1 bt475.2 bt479.1 bt479.2 true)) else (laws_FnRatesChanged.j7 k bt475.1 bt475.2 bt479.1 bt479.2 true))) else (laws_FnRatesChanged.j7 k bt475.1 bt475.2 bt479.1 bt479.2 true))))))))))))))
def laws_FnRatesChanged.j7 : Nat → List Int → Int → List Int → Bool → Bool → Option (Bool)
 | 0, _, _, _, _, _ => none
 | k + 1, x50, x51, x52, x53, x504 => if x504 = true then (some false) else (if x53 = true then ((impl_LineSamples.f k x50 x51 1).bind fun bt497 => (if bt497.2 = true then ((laws_iSame.f k bt497.1 x52).bind fun t501 => (some t501)) else (some false))) else (some true))
def laws_FnRatesChanged.j1 : Nat → List Int → List Int → Int → Int → List Int → List Int → List Int → Bool → Bool → Option (Bool)
 | 0, _, _, _, _, _, _, _, _, _ => none
 | k + 1, x1, x5, x6, x7, x8, x12, x16, x17, x191 => if x191 = true then (some false) else (laws_FnRatesChanged.l0 k x1 x5 x6 x7 x8 x12 x16 x17 (x8.length : Int) 0)
def laws_FnRatesChanged.l0 : Nat → List Int → List Int → Int → Int → List Int → List Int → List Int → Bool → Int → Int → Option (Bool)
 | 0, _, _, _, _, _, _, _, _, _, _ => none
 | k + 1, x1, x5, x6, x7, x8, x12, x16, x17, x193, x194 => if x194 < x193 then ((impl_SourceOf.f x194 x6 x7).bind fun bt425 => (if bt425.2.2 = true then (if bt425.1 ≥ (x5.length : Int) then (laws_FnRatesChanged.j3 k x1 x5 x6 x7 x8 x12 x16 x17 x194 bt425.1 bt425.2.1 x193 x194 true) else (if (wrap64 ((wrap64 (bt425.1 * x6)) + bt425.2.1)) = (wrap64 (x194 * x7)) then (if 0 ≤ x194 then (if x194 < (x8.length : Int) then (if 0 ≤ bt425.1 then (if bt425.1 < (x5.length : Int) then (if (rd x8 x194) = (rd x5 bt425.1) then (if bt425.2.1 = 0 then (if x194 < (x12.length : Int) then (laws_FnRatesChanged.j3 k x1 x5 x6 x7 x8 x12 x16 x17 x194 bt425.1 bt425.2.1 x193 x194 ((rd x12 x194) != (rd x5 bt425.1))) else (none)) else (laws_FnRatesChanged.j3 k x1 x5 x6 x7 x8 x12 x16 x17 x194 bt425.1 bt425.2.1 x193 x194 false)) else (laws_FnRatesChanged.j3 k x1 x5 x6 x7 x8 x12 x16 x17 x194 bt425.1 bt425.2.1 x193 x194 true)) else (none)) else (none)) else (none)) else (none)) else (laws_FnRatesChanged.j3 k x1 x5 x6 x7 x8 x12 x16 x17 x194 bt425.1 bt425.2.1 x193 x194 true))) else (laws_FnRatesChanged.j3 k x1 x5 x6 x7 x8 x12 x16 x17 x194 bt425.1 bt425.2.1 x193 x194 true))) else ((impl_LeastRatio.f k x6 x7).bind fun bt451 => ((impl_HoldSamples.f k x5 bt451.1 bt451.2.1).bind fun bt454 => (if bt451.2.2 = true then (if bt454.2 = true then ((laws_iSame.f k bt454.1 x8).bind fun t458 => (if t458 = true then (laws_FnRatesChanged.j6 k x1) else (some false))) else (some false)) else (some false))))
def laws_FnRatesChanged.j3 : Nat → List Int → List Int → Int → Int → List Int → List Int → List Int → Bool → Int → Int → Int → Int → Int → Bool → Option (Bool)
 | 0, _, _, _, _, _, _, _, _, _, _, _, _, _, _ => none
 | k + 1, x1, x5, x6, x7, x8, x12, x16, x17, x22, x23, x24, x193, x194, x249 => if x249 = true then (some false) else (if (wrap64 (x23 + 1)) < (x5.length : Int) then (laws_FnRatesChanged.j4 k x1 x5 x6 x7 x8 x12 x16 x17 x22 x23 x24 (wrap64 (x23 + 1)) x193 x194) else (laws_FnRatesChanged.j4 k x1 x5 x6 x7 x8 x12 x16 x17 x22 x23 x24 x23 x193 x194))
def laws_FnRatesChanged.j4 : Nat → List Int → List Int → Int → Int → List Int → List Int → List Int → Bool → Int → Int → Int → Int → Int → Int → Option (Bool)
 | 0, _, _, _, _, _, _, _, _, _, _, _, _, _, _ => none
 | k + 1, x1, x5, x6, x7, x8, x12, x16, x17, x22, x23, x24, x26, x193, x194 => if 0 ≤ x22 then (if x22 < (x12.length : Int) then (if 0 ≤ x23 then (if x23 < (x5.length : Int) then (if (rd x12 x22) = (rd x5 x23) then (laws_FnRatesChanged.j5 k x1 x5 x6 x7 x8 x12 x16 x17 x22 x23 x24 x26 x193 x194 false) else (if 0 ≤ x26 then (if x26 < (x5.length : Int) then (laws_FnRatesChanged.j5 k x1 x5 x6 x7 x8 x12 x16 x17 x22 x23 x24 x26 x193 x194 ((rd x12 x22) != (rd x5 x26))) else (none)) else (none))) else (none)) else (none)) else (none)) else (none)
def laws_FnRatesChanged.j5 : Nat → List Int → List Int → Int → Int → List Int → List Int → List Int → Bool → Int → Int → Int → Int → Int → Int → Bool → Option (Bool)
 | 0, _, _, _, _, _, _, _, _, _, _, _, _, _, _, _ => none
 | k + 1, x1, x5, x6, x7, x8, x12, x16, x17, x22, x23, x24, x26, x193, x194, x277 => if x277 = true then (some false) else (if x17 = true then (if 0 ≤ x23 then (if x23 < (x5.length : Int) then (if 0 ≤ x26 then (if x26 < (x5.length : Int) then (if x24 = 0 then (if 0 ≤ x22 then (if x22 < (x16.length : Int) then (if (rd x16 x22) = (wrap64 (x6 * (rd x5 x23))) then (if (rd x16 x22) < (wrap64 (x6 * (rd x5 x23))) then (if (rd x16 x22) < (wrap64 (x6 * (rd x5 x26))) then (some false) else (if (rd x16 x22) > (wrap64 (x6 * (rd x5 x23))) then (if (rd x16 x22) > (wrap64 (x6 * (rd x5 x26))) then (some false) else (laws_FnRatesChanged.l0 k x1 x5 x6 x7 x8 x12 x16 x17 x193 (wrap64 (x194 + 1)))) else (laws_FnRatesChanged.l0 k x1 x5 x6 x7 x8 x12 x16 x17 x193 (wrap64 (x194 + 1))))) else (if (rd x16 x22) > (wrap64 (x6 * (rd x5 x23))) then (if (rd x16 x22) > (wrap64 (x6 * (rd x5 x26))) then (some false) else (laws_FnRatesChanged.l0 k x1 x5 x6 x7 x8 x12 x16 x17 x193 (wrap64 (x194 + 1)))) else (laws_FnRatesChanged.l0 k x1 x5 x6 x7 x8 x12 x16 x17 x193 (wrap64 (x194 + 1))))) else (some false)) else (none)) else (none)) else (if 0 ≤ x22 then (if x22 < (x16.length : Int) then (if (rd x16 x22) < (wrap64 (x6 * (rd x5 x23))) then (if (rd x16 x22) < (wrap64 (x6 * (rd x5 x26))) then (some false) else (if (rd x16 x22) > (wrap64 (x6 * (rd x5 x23))) then (if (rd x16 x22) > (wrap64 (x6 * (rd x5 x26))) then (some false) else (laws_FnRatesChanged.l0 k x1 x5 x6 x7 x8 x12 x16 x17 x193 (wrap64 (x194 + 1)))) else (laws_FnRatesChanged.l0 k x1 x5 x6 x7 x8 x12 x16 x17 x193 (wrap64 (x194 + 1))))) else (if (rd x16 x22) > (wrap64 (x6 * (rd x5 x23))) then (if (rd x16 x22) > (wrap64 (x6 * (rd x5 x26))) then (some false) else (laws_FnRatesChanged.l0 k x1 x5 x6 x7 x8 x12 x16 x17 x193 (wrap64 (x194 + 1)))) else (laws_FnRatesChanged.l0 k x1 x5 x6 x7 x8 x12 x16 x17 x193 (wrap64 (x194 + 1))))) else (none)) else (none))) else (none)) else (none)) else (none)) else (none)) else (laws_FnRatesChanged.l0 k x1 x5 x6 x7 x8 x12 x16 x17 x193 (wrap64 (x194 + 1))))
end
def laws_FnRatesChanged.f (k : Nat) (l0 : List Int) (l1 : List Int) : Option (Bool) := (laws_big.f l0 l1).bind fun t390 => (if t390 = true then (some true) else ((spec_DrawHoldSamples.f k l0).bind fun bt391 => ((impl_HoldSamples.f k bt391.1 bt391.2.1 bt391.2.2).bind fun bt396 => ((spec_HoldSamples.f k bt391.1 bt391.2.1 bt391.2.2).bind fun bt400 => ((impl_NearSamples.f k bt391.1 bt391.2.1 bt391.2.2).bind fun bt404 => ((spec_NearSamples.f k bt391.1 bt391.2.1 bt391.2.2).bind fun bt408 => ((impl_LineSamples.f k bt391.1 bt391.2.1 bt391.2.2).bind fun bt412 => ((spec_LineSamples.f k bt391.1 bt391.2.1 bt391.2.2).bind fun bt416 => (if (bt396.2 != bt400.2) = true then (laws_FnRatesChanged.j0 k l1 bt391.1 bt391.2.1 bt391.2.2 bt396.1 bt396.2 bt404.1 bt412.1 bt412.2 true) else ((laws_iSame.f k bt396.1 bt400.1).bind fun t420 => (if t420 = true then (if (bt404.2 != bt408.2) = true then (laws_FnRatesChanged.j0 k l1 bt391.1 bt391.2.1 bt391.2.2 bt396.1 bt396.2 bt404.1 bt412.1 bt412.2 true) else ((laws_iSame.f k bt404.1 bt408.1).bind fun t421 => (if t421 = true then (if (bt412.2 != bt416.2) = true then (laws_FnRatesChanged.j0 k l1 bt391.1 bt391.2.1 bt391.2.2 bt396.1 bt396.2 bt404.1 bt412.1 bt412.2 true) else ((laws_iSame.f k bt412.1 bt416.1).bind fun t422 => (if t422 = true then (if (bt404.2 != bt396.2) = true then (laws_FnRatesChanged.j0 k l1 bt391.1 bt391.2.1 bt391.2.2 bt396.1 bt396.2 bt404.1 bt412.1 bt412.2 true) else (if bt412.2 = true then (laws_FnRatesChanged.j0 k l1 bt391.1 bt391.2.1 bt391.2.2 bt396.1 bt396.2 bt404.1 bt412.1 bt412.2 (!bt396.2)) else (laws_FnRatesChanged.j0 k l1 bt391.1 bt391.2.1 bt391.2.2 bt396.1 bt396.2 bt404.1 bt412.1 bt412.2 false))) else (laws_FnRatesChanged.j0 k l1 bt391.1 bt391.2.1 bt391.2.2 bt396.1 bt396.2 bt404.1 bt412.1 bt412.2 true)))) else (laws_FnRatesChanged.j0 k l1 bt391.1 bt391.2.1 bt391.2.2 bt396.1 bt396.2 bt404.1 bt412.1 bt412.2 true)))) else (laws_FnRatesChanged.j0 k l1 bt391.1 bt391.2.1 bt391.2.2 bt396.1 bt396.2 bt404.1 bt412.1 bt412.2 true))))))))))))
theorem laws_FnRatesChanged.mono_l : ∀ k, (∀ y0 y1 y2 y3 y4 y5 y6 y7 y8 y9, LeO (laws_FnRatesChanged.j0 k y0 y1 y2 y3 y4 y5 y6 y7 y8 y9) (laws_FnRatesChanged.j0 (k + 1) y0 y1 y2 y3 y4 y5 y6 y7 y8 y9)) ∧ (∀ y0, LeO (laws_FnRatesChanged.j6 k y0) (laws_FnRatesChanged.j6 (k + 1) y0)) ∧ (∀ y0 y1 y2 y3 y4, LeO (laws_FnRatesChanged.j7 k y0 y1 y2 y3 y4) (laws_FnRatesChanged.j7 (k + 1) y0 y1 y2 y3 y4)) ∧ (∀ y0 y1 y2 y3 y4 y5 y6 y7 y8, LeO (laws_FnRatesChanged.j1 k y0 y1 y2 y3 y4 y5 y6 y7 y8) (laws_FnRatesChanged.j1 (k + 1) y0 y1 y2 y3 y4 y5 y6 y7 y8)) ∧ (∀ y0 y1 y2 y3 y4 y5 y6 y7 y8 y9, LeO (laws_FnRatesChanged.l0 k y0 y1 y2 y3 y4 y5 y6 y7 y8 y9) (laws_FnRatesChanged.l0 (k + 1) y0 y1 y2 y3 y4 y5 y6 y7 y8 y9)) ∧ (∀ y0 y1 y2 y3 y4 y5 y6 y7 y8 y9 y10 y11 y12 y13, LeO (laws_FnRatesChanged.j3 k y0 y1 y2 y3 y4 y5 y6 y7 y8 y9 y10 y11 y12 y13) (laws_FnRatesChanged.j3 (k + 1) y0 y1 y2 y3 y4 y5 y6 y7 y8 y9 y10 y11 y12 y13)) ∧ (∀ y0 y1 y2 y3 y4 y5 y6 y7 y8 y9 y10 y11 y12 y13, LeO (laws_FnRatesChanged.j4 k y0 y1 y2 y3 y4 y5 y6 y7 y8 y9 y10 y11 y12 y13) (laws_FnRatesChanged.j4 (k + 1) y0 y1 y2 y3 y4 y5 y6 y7 y8 y9 y10 y11 y12 y13)) ∧ (∀ y0 y1 y2 y3 y4 y5 y6 y7 y8 y9 y10 y11 y12 y13 y14, LeO (laws_FnRatesChanged.j5 k y0 y1 y2 y3 y4 y5 y6 y7 y8 y9 y10 y11 y12 y13 y14) (laws_FnRatesChanged.j5 (k + 1) y0 y1 y2 y3 y4 y5 y6 y7 y8 y9 y10 y11 y12 y13 y14))
 | 0 => ⟨fun _ _ _ _ _ _ _ _ _ _ r h => by simp [laws_FnRatesChanged.j0] at h, fun _ r h => by simp [laws_FnRatesChanged.j6] at h, fun _ _ _ _ _ r h => by simp [laws_FnRatesChanged.j7] at h, fun _ _ _ _ _ _ _ _ _ r h => by simp [laws_FnRatesChanged.j1] at h, fun _ _ _ _ _ _ _ _ _ _ r h => by simp [laws_FnRatesChanged.l0] at h, fun _ _ _ _ _ _ _ _ _ _ _ _ _ _ r h => by simp [laws_FnRatesChanged.j3] at h, fun _ _ _ _ _ _ _ _ _ _ _ _ _ _ r h => by simp [laws_FnRatesChanged.j4] at h, fun _ _ _ _ _ _ _ _ _ _ _ _ _ _ _ r h => by simp [laws_FnRatesChanged.j5] at h⟩
 | k + 1 => by
  obtain ⟨ih0, ih1, ih2, ih3, ih4, ih5, ih6, ih7⟩ := laws_FnRatesChanged.mono_l k
  have m0 := @impl_HoldSamples.mono
  have m1 := @impl_LeastRatio.mono
  have m2 := @impl_LineSamples.mono
  have m3 := @impl_LinesOfSame.mono
  have m4 := @impl_NearSamples.mono
  have m5 := @laws_iCommon.mono
  have m6 := @laws_iSame.mono
  have m7 := @spec_DrawHoldSamples.mono
  have m8 := @spec_DrawLinesOfSame.mono
  have m9 := @spec_HoldSamples.mono
  have m10 := @spec_LeastRatio.mono
  have m11 := @spec_LineSamples.mono
  have m12 := @spec_LinesOfSame.mono
  have m13 := @spec_NearSamples.mono
  refine ⟨?_, ?_, ?_, ?_, ?_, ?_, ?_, ?_⟩ <;> intros
  ·unfold laws_FnRatesChanged.j0; exact xM
  ·unfold laws_FnRatesChanged.j6; exact xM
  ·unfold laws_FnRatesChanged.j7; exact xM
  ·unfold laws_FnRatesChanged.j1; exact xM
  ·unfold laws_FnRatesChanged.l0; exact xM
  ·unfold laws_FnRatesChanged.j3; exact xM
  ·unfold laws_FnRatesChanged.j4; exact xM
  ·unfold laws_FnRatesChanged.j5; exact xM
theorem laws_FnRatesChanged.mono : ∀ a0 a1 k, LeO (laws_FnRatesChanged.f k a0 a1) (laws_FnRatesChanged.f (k + 1) a0 a1) := by
 intro a0 a1 k
 obtain ⟨ih0, ih1, ih2, ih3, ih4, ih5, ih6, ih7⟩ := laws_FnRatesChanged.mono_l k
 have m0 := @impl_HoldSamples.mono
 have m1 := @impl_LeastRatio.mono
 have m2 := @impl_LineSamples.mono
 have m3 := @impl_LinesOfSame.mono
 have m4 := @impl_NearSamples.mono
 have m5 := @laws_iCommon.mono
 have m6 := @laws_iSame.mono
 have m7 := @spec_DrawHoldSamples.mono
 have m8 := @spec_DrawLinesOfSame.mono
 have m9 := @spec_HoldSamples.mono
 have m10 := @spec_LeastRatio.mono
 have m11 := @spec_LineSamples.mono
 have m12 := @spec_LinesOfSame.mono
 have m13 := @spec_NearSamples.mono
 unfold laws_FnRatesChanged.f
 exact xM
set_option maxHeartbeats 200000000 in
set_option maxRecDepth 100000 in
theorem laws_FnRatesChanged.calls (k : Nat) (A0 : Option Addr) (c0 : Nat) (l0 : List Int) (A1 : Option Addr) (c1 : Nat) (l1 : List Int) (r : Bool) (w : World) (hr0 : Kd.C (Kd.int .u8) w A0 l0.length l0) (hc0 : l0.length ≤ c0) (hr1 : Kd.C (Kd.int .u8) w A1 l1.length l1) (hc1 : l1.length ≤ c1) (h : laws_FnRatesChanged.f k l0 l1 = some r) (hr_ : r = true) :
  Calls Try.prog 3 #[.slice A0 l0.length c0, .slice A1 l1.length c1] w fun e w' => e = .returned (.bool r) ∧ Below w.heap.size w w' := by
 have HRT := Aside0.mk hr_
 clear hr_
 have HR0 := Aside0.mk hr0
 have HC0 := Aside0.mk hc0
 clear hr0 hc0
 have HR1 := Aside0.mk hr1
 have HC1 := Aside0.mk hc1
 clear hr1 hc1
 have HB := Aside0.mk (Below.refl w.heap.size w)
 have H : ((laws_big.f l0 l1).bind fun t390 => (if t390 = true then (some true) else ((spec_DrawHoldSamples.f k l0).bind fun bt391 => ((impl_HoldSamples.f k bt391.1 bt391.2.1 bt391.2.2).bind fun bt396 => ((spec_HoldSamples.f k bt391.1 bt391.2.1 bt391.2.2).bind fun bt400 => ((impl_NearSamples.f k bt391.1 bt391.2.1 bt391.2.2).bind fun bt404 => ((spec_NearSamples.f k bt391.1 bt391.2.1 bt391.2.2).bind fun bt408 => ((impl_LineSamples.f k bt391.1 bt391.2.1 bt391.2.2).bind fun bt412 => ((spec_LineSamples.f k bt391.1 bt391.2.1 bt391.2.2).bind fun bt416 => (if (bt396.2 != bt400.2) = true then (laws_FnRatesChanged.j0 k l1 bt391.1 bt391.2.1 bt391.2.2 bt396.1 bt396.2 bt404.1 bt412.1 bt412.2 true) else ((laws_iSame.f k bt396.1 bt400.1).bind fun t420 => (if t420 = true then (if (bt404.2 != bt408.2) = true then (laws_FnRatesChanged.j0 k l1 bt391.1 bt391.2.1 bt391.2.2 bt396.1 bt396.2 bt404.1 bt412.1 bt412.2 true) else ((laws_iSame.f k bt404.1 bt408.1).bind fun t421 => (if t421 = true then (if (bt412.2 != bt416.2) = true then (laws_FnRatesChanged.j0 k l1 bt391.1 bt391.2.1 bt391.2.2 bt396.1 bt396.2 bt404.1 bt412.1 bt412.2 true) else ((laws_iSame.f k bt412.1 bt416.1).bind fun t422 => (if t422 = true then (if (bt404.2 != bt396.2) = true then (laws_FnRatesChanged.j0 k l1 bt391.1 bt391.2.1 bt391.2.2 bt396.1 bt396.2 bt404.1 bt412.1 bt412.2 true) else (if bt412.2 = true then (laws_FnRatesChanged.j0 k l1 bt391.1 bt391.2.1 bt391.2.2 bt396.1 bt396.2 bt404.1 bt412.1 bt412.2 (!bt396.2)) else (laws_FnRatesChanged.j0 k l1 bt391.1 bt391.2.1 bt391.2.2 bt396.1 bt396.2 bt404.1 bt412.1 bt412.2 false))) else (laws_FnRatesChanged.j0 k l1 bt391.1 bt391.2.1 bt391.2.2 bt396.1 bt396.2 bt404.1 bt412.1 bt412.2 true)))) else (laws_FnRatesChanged.j0 k l1 bt391.1 bt391.2.1 bt391.2.2 bt396.1 bt396.2 bt404.1 bt412.1 bt412.2 true)))) else (laws_FnRatesChanged.j0 k l1 bt391.1 bt391.2.1 bt391.2.2 bt396.1 bt396.2 bt404.1 bt412.1 bt412.2 true))))))))))))) = some r := h
 clear h
 obtain ⟨t390, A3, H⟩ := xO H
 (try dsimp only at H)
 by_cases c4 : t390 = true
 ·as_aux_lemma =>
   subst c4
   rw [if_pos rfl] at H
   obtain rfl := Option.some.inj H
   go_enter Try.func3, Try.ntmps3
   go_wp2_with (first | (go_at_call 13; (with_reducible refine (laws_big.calls _ _ l0 _ _ l1 true _ ?side1 ?side2 ?side3 ?side4 A3.out).mono ?_); (case side1 => exact xC HR0.out); (case side2 => exact HC0.out); (case side3 => exact xC HR1.out); (case side4 => exact HC1.out); rintro e w' ⟨rfl, ⟨nd, rfl⟩⟩; (try exact xD)))
   (try any_goals exact (xU (by assumption)).elim)
   repeat (go_quiet (first | (go_at_call 13; (with_reducible refine (laws_big.calls _ _ l0 _ _ l1 true _ ?side1 ?side2 ?side3 ?side4 A3.out).mono ?_); (case side1 => exact xC HR0.out); (case side2 => exact HC0.out); (case side3 => exact xC HR1.out); (case side4 => exact HC1.out); rintro e w' ⟨rfl, ⟨nd, rfl⟩⟩; (try exact xD))); try go_wp2_with (first | (go_at_call 13; (with_reducible refine (laws_big.calls _ _ l0 _ _ l1 true _ ?side1 ?side2 ?side3 ?side4 A3.out).mono ?_); (case side1 => exact xC HR0.out); (case side2 => exact HC0.out); (case side3 => exact xC HR1.out); (case side4 => exact HC1.out); rintro e w' ⟨rfl, ⟨nd, rfl⟩⟩; (try exact xD))))
   (try any_goals exact (xU (by assumption)).elim)
   go_ret
   exact ⟨by first | rfl | (simp [errW_none, errW_some] <;> rfl) | (simp [*, errW_none, errW_some] <;> rfl), xB HB.out⟩
 replace c4 := Bool.eq_false_iff.mpr c4
 subst c4
 rw [if_neg (show ¬ (false = true) by decide)] at H
 replace H := Option.bind_eq_some_iff.mp H
 obtain ⟨⟨t391, t392, t393⟩, A50, H⟩ := H
 (try dsimp only at H)
 have A5 := Aside0.mk A50
 clear A50
 replace H := Option.bind_eq_some_iff.mp H
 obtain ⟨⟨t396, t397⟩, A60, H⟩ := H
 (try dsimp only at H)
 have A6 := Aside0.mk A60
 clear A60
 replace H := Option.bind_eq_some_iff.mp H
 obtain ⟨⟨t400, t401⟩, A70, H⟩ := H
 (try dsimp only at H)
 have A7 := Aside0.mk A70
 clear A70
 replace H := Option.bind_eq_some_iff.mp H
 obtain ⟨⟨t404, t405⟩, A80, H⟩ := H
 (try dsimp only at H)
 have A8 := Aside0.mk A80
 clear A80
 replace H := Option.bind_eq_some_iff.mp H
 obtain ⟨⟨t408, t409⟩, A90, H⟩ := H
 (try dsimp only at H)
 have A9 := Aside0.mk A90
 clear A90
 replace H := Option.bind_eq_some_iff.mp H
 obtain ⟨⟨t412, t413⟩, A100, H⟩ := H
 (try dsimp only at H)
 have A10 := Aside0.mk A100
 clear A100
 replace H := Option.bind_eq_some_iff.mp H
 obtain ⟨⟨t416, t417⟩, A110, H⟩ := H
 (try dsimp only at H)
 have A11 := Aside0.mk A110
 clear A110
 have HC12 := Aside0.mk H
 clear H
 go_enter Try.func3, Try.ntmps3
 go_upto_region 10 with (first | (go_at_call 13; (with_reducible refine (laws_big.calls _ _ l0 _ _ l1 false _ ?side1 ?side2 ?side3 ?side4 A3.out).mono ?_); (case side1 => exact xC HR0.out); (case side2 => exact HC0.out); (case side3 => exact xC HR1.out); (case side4 => exact HC1.out); rintro e w' ⟨rfl, ⟨nd, rfl⟩⟩; (try exact xD)) | (go_at_call 14; (with_reducible refine (spec_DrawHoldSamples.calls k _ _ l0 t391 t392 t393 _ ?side1 ?side2 A5.out).mono ?_); (case side1 => exact xC HR0.out); (case side2 => exact HC0.out); rintro e w13 ⟨v394, rfl, ho0, hb⟩; have HO395 := Aside0.mk (Kd.R_lower ho0 (below_size (xB HB.out))); replace HB := Aside0.mk (below_step (xB HB.out) hb); (try clear hb); (try clear hb2); (try clear hk); (try clear hi); (try clear ho0); obtain ⟨Ao14, co14, eo14⟩ := Kd.R_slice HO395.out; subst eo14) | (go_at_call 15; (with_reducible refine (impl_HoldSamples.calls k _ _ t391 t392 t393 t396 t397 _ ?side1 ?side2 A6.out).mono ?_); (case side1 => exact xC ((Kd.R_reads' HO395.out).2.2)); (case side2 => exact (Kd.R_reads' HO395.out).2.1); rintro e w15 ⟨v398, rfl, ho0, hb⟩; have HO399 := Aside0.mk (Kd.R_lower (Kd.R_new' ho0 (Kd.R_lt (xR HO395.out))) (below_size (xB HB.out))); replace HO395 := Aside0.mk (Kd.R_elder' (xR HO395.out) (Kd.R_base ho0) hb); replace HB := Aside0.mk (below_step (xB HB.out) hb); (try clear hb); (try clear hb2); (try clear hk); (try clear hi); (try clear ho0)) | (go_at_call 16; (with_reducible refine (spec_HoldSamples.calls k _ _ t391 t392 t393 t400 t401 _ ?side1 ?side2 A7.out).mono ?_); (case side1 => exact xC ((Kd.R_reads' HO395.out).2.2)); (case side2 => exact (Kd.R_reads' HO395.out).2.1); rintro e w16 ⟨v402, rfl, ho0, hb⟩; have HO403 := Aside0.mk (Kd.R_lower (Kd.R_new' (Kd.R_new' ho0 (Kd.R_lt (xR HO395.out))) (Kd.R_lt (xR HO399.out))) (below_size (xB HB.out))); replace HO395 := Aside0.mk (Kd.R_elder' (xR HO395.out) (Kd.R_base ho0) hb); replace HO399 := Aside0.mk (Kd.R_elder' (xR HO399.out) (Kd.R_base ho0) hb); replace HB := Aside0.mk (below_step (xB HB.out) hb); (try clear hb); (try clear hb2); (try clear hk); (try clear hi); (try clear ho0)) | (go_at_call 17; (with_reducible refine (impl_NearSamples.calls k _ _ t391 t392 t393 t404 t405 _ ?side1 ?side2 A8.out).mono ?_); (case side1 => exact xC ((Kd.R_reads' HO395.out).2.2)); (case side2 => exact (Kd.R_reads' HO395.out).2.1); rintro e w17 ⟨v406, rfl, ho0, hb⟩; have HO407 := Aside0.mk (Kd.R_lower (Kd.R_new' (Kd.R_new' (Kd.R_new' ho0 (Kd.R_lt (xR HO395.out))) (Kd.R_lt (xR HO399.out))) (Kd.R_lt (xR HO403.out))) (below_size (xB HB.out))); replace HO395 := Aside0.mk (Kd.R_elder' (xR HO395.out) (Kd.R_base ho0) hb); replace HO399 := Aside0.mk (Kd.R_elder' (xR HO399.out) (Kd.R_base ho0) hb); replace HO403 := Aside0.mk (Kd.R_elder' (xR HO403.out) (Kd.R_base ho0) hb); replace HB := Aside0.mk (below_step (xB HB.out) hb); (try clear hb); (try clear hb2); (try clear hk); (try clear hi); (try clear ho0)) | (go_at_call 18; (with_reducible refine (spec_NearSamples.calls k _ _ t391 t392 t393 t408 t409 _ ?side1 ?side2 A9.out).mono ?_); (case side1 => exact xC ((Kd.R_reads' HO395.out).2.2)); (case side2 => exact (Kd.R_reads' HO395.out).2.1); rintro e w18 ⟨v410, rfl, ho0, hb⟩; have HO411 := Aside0.mk (Kd.R_lower (Kd.R_new' (Kd.R_new' (Kd.R_new' (Kd.R_new' ho0 (Kd.R_lt (xR HO395.out))) (Kd.R_lt (xR HO399.out))) (Kd.R_lt (xR HO403.out))) (Kd.R_lt (xR HO407.out))) (below_size (xB HB.out))); replace HO395 := Aside0.mk (Kd.R_elder' (xR HO395.out) (Kd.R_base ho0) hb); replace HO399 := Aside0.mk (Kd.R_elder' (xR HO399.out) (Kd.R_base ho0) hb); replace HO403 := Aside0.mk (Kd.R_elder' (xR HO403.out) (Kd.R_base ho0) hb); replace HO407 := Aside0.mk (Kd.R_elder' (xR HO407.out) (Kd.R_base ho0) hb); replace HB := Aside0.mk (below_step (xB HB.out) hb); (try clear hb); (try clear hb2); (try clear hk); (try clear hi); (try clear ho0)) | (go_at_call 19; (with_reducible refine (impl_LineSamples.calls k _ _ t391 t392 t393 t412 t413 _ ?side1 ?side2 A10.out).mono ?_); (case side1 => exact xC ((Kd.R_reads' HO395.out).2.2)); (case side2 => exact (Kd.R_reads' HO395.out).2.1); rintro e w19 ⟨v414, rfl, ho0, hb⟩; have HO415 := Aside0.mk (Kd.R_lower (Kd.R_new' (Kd.R_new' (Kd.R_new' (Kd.R_new' (Kd.R_new' ho0 (Kd.R_lt (xR HO395.out))) (Kd.R_lt (xR HO399.out))) (Kd.R_lt (xR HO403.out))) (Kd.R_lt (xR HO407.out))) (Kd.R_lt (xR HO411.out))) (below_size (xB HB.out))); replace HO395 := Aside0.mk (Kd.R_elder' (xR HO395.out) (Kd.R_base ho0) hb); replace HO399 := Aside0.mk (Kd.R_elder' (xR HO399.out) (Kd.R_base ho0) hb); replace HO403 := Aside0.mk (Kd.R_elder' (xR HO403.out) (Kd.R_base ho0) hb); replace HO407 := Aside0.mk (Kd.R_elder' (xR HO407.out) (Kd.R_base ho0) hb); replace HO411 := Aside0.mk (Kd.R_elder' (xR HO411.out) (Kd.R_base ho0) hb); replace HB := Aside0.mk (below_step (xB HB.out) hb); (try clear hb); (try clear hb2); (try clear hk); (try clear hi); (try clear ho0)) | (go_at_call 20; (with_reducible refine (spec_LineSamples.calls k _ _ t391 t392 t393 t416 t417 _ ?side1 ?side2 A11.out).mono ?_); (case side1 => exact xC ((Kd.R_reads' HO395.out).2.2)); (case side2 => exact (Kd.R_reads' HO395.out).2.1); rintro e w20 ⟨v418, rfl, ho0, hb⟩; have HO419 := Aside0.mk (Kd.R_lower (Kd.R_new' (Kd.R_new' (Kd.R_new' (Kd.R_new' (Kd.R_new' (Kd.R_new' ho0 (Kd.R_lt (xR HO395.out))) (Kd.R_lt (xR HO399.out))) (Kd.R_lt (xR HO403.out))) (Kd.R_lt (xR HO407.out))) (Kd.R_lt (xR HO411.out))) (Kd.R_lt (xR HO415.out))) (below_size (xB HB.out))); replace HO395 := Aside0.mk (Kd.R_elder' (xR HO395.out) (Kd.R_base ho0) hb); replace HO399 := Aside0.mk (Kd.R_elder' (xR HO399.out) (Kd.R_base ho0) hb); replace HO403 := Aside0.mk (Kd.R_elder' (xR HO403.out) (Kd.R_base ho0) hb); replace HO407 := Aside0.mk (Kd.R_elder' (xR HO407.out) (Kd.R_base ho0) hb); replace HO411 := Aside0.mk (Kd.R_elder' (xR HO411.out) (Kd.R_base ho0) hb); replace HO415 := Aside0.mk (Kd.R_elder' (xR HO415.out) (Kd.R_base ho0) hb); replace HB := Aside0.mk (below_step (xB HB.out) hb); (try clear hb); (try clear hb2); (try clear hk); (try clear hi); (try clear ho0)))
 repeat (go_quiet (first | (go_at_call 13; (with_reducible refine (laws_big.calls _ _ l0 _ _ l1 false _ ?side1 ?side2 ?side3 ?side4 A3.out).mono ?_); (case side1 => exact xC HR0.out); (case side2 => exact HC0.out); (case side3 => exact xC HR1.out); (case side4 => exact HC1.out); rintro e w' ⟨rfl, ⟨nd, rfl⟩⟩; (try exact xD)) | (go_at_call 14; (with_reducible refine (spec_DrawHoldSamples.calls k _ _ l0 t391 t392 t393 _ ?side1 ?side2 A5.out).mono ?_); (case side1 => exact xC HR0.out); (case side2 => exact HC0.out); rintro e w13 ⟨v394, rfl, ho0, hb⟩; have HO395 := Aside0.mk (Kd.R_lower ho0 (below_size (xB HB.out))); replace HB := Aside0.mk (below_step (xB HB.out) hb); (try clear hb); (try clear hb2); (try clear hk); (try clear hi); (try clear ho0); obtain ⟨Ao14, co14, eo14⟩ := Kd.R_slice HO395.out; subst eo14) | (go_at_call 15; (with_reducible refine (impl_HoldSamples.calls k _ _ t391 t392 t393 t396 t397 _ ?side1 ?side2 A6.out).mono ?_); (case side1 => exact xC ((Kd.R_reads' HO395.out).2.2)); (case side2 => exact (Kd.R_reads' HO395.out).2.1); rintro e w15 ⟨v398, rfl, ho0, hb⟩; have HO399 := Aside0.mk (Kd.R_lower (Kd.R_new' ho0 (Kd.R_lt (xR HO395.out))) (below_size (xB HB.out))); replace HO395 := Aside0.mk (Kd.R_elder' (xR HO395.out) (Kd.R_base ho0) hb); replace HB := Aside0.mk (below_step (xB HB.out) hb); (try clear hb); (try clear hb2); (try clear hk); (try clear hi); (try clear ho0)) | (go_at_call 16; (with_reducible refine (spec_HoldSamples.calls k _ _ t391 t392 t393 t400 t401 _ ?side1 ?side2 A7.out).mono ?_); (case side1 => exact xC ((Kd.R_reads' HO395.out).2.2)); (case side2 => exact (Kd.R_reads' HO395.out).2.1); rintro e w16 ⟨v402, rfl, ho0, hb⟩; have HO403 := Aside0.mk (Kd.R_lower (Kd.R_new' (Kd.R_new' ho0 (Kd.R_lt (xR HO395.out))) (Kd.R_lt (xR HO399.out))) (below_size (xB HB.out))); replace HO395 := Aside0.mk (Kd.R_elder' (xR HO395.out) (Kd.R_base ho0) hb); replace HO399 := Aside0.mk (Kd.R_elder' (xR HO399.out) (Kd.R_base ho0) hb); replace HB := Aside0.mk (below_step (xB HB.out) hb); (try clear hb); (try clear hb2); (try clear hk); (try clear hi); (try clear ho0)) | (go_at_call 17; (with_reducible refine (impl_NearSamples.calls k _ _ t391 t392 t393 t404 t405 _ ?side1 ?side2 A8.out).mono ?_); (case side1 => exact xC ((Kd.R_reads' HO395.out).2.2)); (case side2 => exact (Kd.R_reads' HO395.out).2.1); rintro e w17 ⟨v406, rfl, ho0, hb⟩; have HO407 := Aside0.mk (Kd.R_lower (Kd.R_new' (Kd.R_new' (Kd.R_new' ho0 (Kd.R_lt (xR HO395.out))) (Kd.R_lt (xR HO399.out))) (Kd.R_lt (xR HO403.out))) (below_size (xB HB.out))); replace HO395 := Aside0.mk (Kd.R_elder' (xR HO395.out) (Kd.R_base ho0) hb); replace HO399 := Aside0.mk (Kd.R_elder' (xR HO399.out) (Kd.R_base ho0) hb); replace HO403 := Aside0.mk (Kd.R_elder' (xR HO403.out) (Kd.R_base ho0) hb); replace HB := Aside0.mk (below_step (xB HB.out) hb); (try clear hb); (try clear hb2); (try clear hk); (try clear hi); (try clear ho0)) | (go_at_call 18; (with_reducible refine (spec_NearSamples.calls k _ _ t391 t392 t393 t408 t409 _ ?side1 ?side2 A9.out).mono ?_); (case side1 => exact xC ((Kd.R_reads' HO395.out).2.2)); (case side2 => exact (Kd.R_reads' HO395.out).2.1); rintro e w18 ⟨v410, rfl, ho0, hb⟩; have HO411 := Aside0.mk (Kd.R_lower (Kd.R_new' (Kd.R_new' (Kd.R_new' (Kd.R_new' ho0 (Kd.R_lt (xR HO395.out))) (Kd.R_lt (xR HO399.out))) (Kd.R_lt (xR HO403.out))) (Kd.R_lt (xR HO407.out))) (below_size (xB HB.out))); replace HO395 := Aside0.mk (Kd.R_elder' (xR HO395.out) (Kd.R_base ho0) hb); replace HO399 := Aside0.mk (Kd.R_elder' (xR HO399.out) (Kd.R_base ho0) hb); replace HO403 := Aside0.mk (Kd.R_elder' (xR HO403.out) (Kd.R_base ho0) hb); replace HO407 := Aside0.mk (Kd.R_elder' (xR HO407.out) (Kd.R_base ho0) hb); replace HB := Aside0.mk (below_step (xB HB.out) hb); (try clear hb); (try clear hb2); (try clear hk); (try clear hi); (try clear ho0)) | (go_at_call 19; (with_reducible refine (impl_LineSamples.calls k _ _ t391 t392 t393 t412 t413 _ ?side1 ?side2 A10.out).mono ?_); (case side1 => exact xC ((Kd.R_reads' HO395.out).2.2)); (case side2 => exact (Kd.R_reads' HO395.out).2.1); rintro e w19 ⟨v414, rfl, ho0, hb⟩; have HO415 := Aside0.mk (Kd.R_lower (Kd.R_new' (Kd.R_new' (Kd.R_new' (Kd.R_new' (Kd.R_new' ho0 (Kd.R_lt (xR HO395.out))) (Kd.R_lt (xR HO399.out))) (Kd.R_lt (xR HO403.out))) (Kd.R_lt (xR HO407.out))) (Kd.R_lt (xR HO411.out))) (below_size (xB HB.out))); replace HO395 := Aside0.mk (Kd.R_elder' (xR HO395.out) (Kd.R_base ho0) hb); replace HO399 := Aside0.mk (Kd.R_elder' (xR HO399.out) (Kd.R_base ho0) hb); replace HO403 := Aside0.mk (Kd.R_elder' (xR HO403.out) (Kd.R_base ho0) hb); replace HO407 := Aside0.mk (Kd.R_elder' (xR HO407.out) (Kd.R_base ho0) hb); replace HO411 := Aside0.mk (Kd.R_elder' (xR HO411.out) (Kd.R_base ho0) hb); replace HB := Aside0.mk (below_step (xB HB.out) hb); (try clear hb); (try clear hb2); (try clear hk); (try clear hi); (try clear ho0)) | (go_at_call 20; (with_reducible refine (spec_LineSamples.calls k _ _ t391 t392 t393 t416 t417 _ ?side1 ?side2 A11.out).mono ?_); (case side1 => exact xC ((Kd.R_reads' HO395.out).2.2)); (case side2 => exact (Kd.R_reads' HO395.out).2.1); rintro e w20 ⟨v418, rfl, ho0, hb⟩; have HO419 := Aside0.mk (Kd.R_lower (Kd.R_new' (Kd.R_new' (Kd.R_new' (Kd.R_new' (Kd.R_new' (Kd.R_new' ho0 (Kd.R_lt (xR HO395.out))) (Kd.R_lt (xR HO399.out))) (Kd.R_lt (xR HO403.out))) (Kd.R_lt (xR HO407.out))) (Kd.R_lt (xR HO411.out))) (Kd.R_lt (xR HO415.out))) (below_size (xB HB.out))); replace HO395 := Aside0.mk (Kd.R_elder' (xR HO395.out) (Kd.R_base ho0) hb); replace HO399 := Aside0.mk (Kd.R_elder' (xR HO399.out) (Kd.R_base ho0) hb); replace HO403 := Aside0.mk (Kd.R_elder' (xR HO403.out) (Kd.R_base ho0) hb); replace HO407 := Aside0.mk (Kd.R_elder' (xR HO407.out) (Kd.R_base ho0) hb); replace HO411 := Aside0.mk (Kd.R_elder' (xR HO411.out) (Kd.R_base ho0) hb); replace HO415 := Aside0.mk (Kd.R_elder' (xR HO415.out) (Kd.R_base ho0) hb); replace HB := Aside0.mk (below_step (xB HB.out) hb); (try clear hb); (try clear hb2); (try clear hk); (try clear hi); (try clear ho0))); go_upto_region 10 with (first | (go_at_call 13; (with_reducible refine (laws_big.calls _ _ l0 _ _ l1 false _ ?side1 ?side2 ?side3 ?side4 A3.out).mono ?_); (case side1 => exact xC HR0.out); (case side2 => exact HC0.out); (case side3 => exact xC HR1.out); (case side4 => exact HC1.out); rintro e w' ⟨rfl, ⟨nd, rfl⟩⟩; (try exact xD)) | (go_at_call 14; (with_reducible refine (spec_DrawHoldSamples.calls k _ _ l0 t391 t392 t393 _ ?side1 ?side2 A5.out).mono ?_); (case side1 => exact xC HR0.out); (case side2 => exact HC0.out); rintro e w13 ⟨v394, rfl, ho0, hb⟩; have HO395 := Aside0.mk (Kd.R_lower ho0 (below_size (xB HB.out))); replace HB := Aside0.mk (below_step (xB HB.out) hb); (try clear hb); (try clear hb2); (try clear hk); (try clear hi); (try clear ho0); obtain ⟨Ao14, co14, eo14⟩ := Kd.R_slice HO395.out; subst eo14) | (go_at_call 15; (with_reducible refine (impl_HoldSamples.calls k _ _ t391 t392 t393 t396 t397 _ ?side1 ?side2 A6.out).mono ?_); (case side1 => exact xC ((Kd.R_reads' HO395.out).2.2)); (case side2 => exact (Kd.R_reads' HO395.out).2.1); rintro e w15 ⟨v398, rfl, ho0, hb⟩; have HO399 := Aside0.mk (Kd.R_lower (Kd.R_new' ho0 (Kd.R_lt (xR HO395.out))) (below_size (xB HB.out))); replace HO395 := Aside0.mk (Kd.R_elder' (xR HO395.out) (Kd.R_base ho0) hb); replace HB := Aside0.mk (below_step (xB HB.out) hb); (try clear hb); (try clear hb2); (try clear hk); (try clear hi); (try clear ho0)) | (go_at_call 16; (with_reducible refine (spec_HoldSamples.calls k _ _ t391 t392 t393 t400 t401 _ ?side1 ?side2 A7.out).mono ?_); (case side1 => exact xC ((Kd.R_reads' HO395.out).2.2)); (case side2 => exact (Kd.R_reads' HO395.out).2.1); rintro e w16 ⟨v402, rfl, ho0, hb⟩; have HO403 := Aside0.mk (Kd.R_lower (Kd.R_new' (Kd.R_new' ho0 (Kd.R_lt (xR HO395.out))) (Kd.R_lt (xR HO399.out))) (below_size (xB HB.out))); replace HO395 := Aside0.mk (Kd.R_elder' (xR HO395.out) (Kd.R_base ho0) hb); replace HO399 := Aside0.mk (Kd.R_elder' (xR HO399.out) (Kd.R_base ho0) hb); replace HB := Aside0.mk (below_step (xB HB.out) hb); (try clear hb); (try clear hb2); (try clear hk); (try clear hi); (try clear ho0)) | (go_at_call 17; (with_reducible refine (impl_NearSamples.calls k _ _ t391 t392 t393 t404 t405 _ ?side1 ?side2 A8.out).mono ?_); (case side1 => exact xC ((Kd.R_reads' HO395.out).2.2)); (case side2 => exact (Kd.R_reads' HO395.out).2.1); rintro e w17 ⟨v406, rfl, ho0, hb⟩; have HO407 := Aside0.mk (Kd.R_lower (Kd.R_new' (Kd.R_new' (Kd.R_new' ho0 (Kd.R_lt (xR HO395.out))) (Kd.R_lt (xR HO399.out))) (Kd.R_lt (xR HO403.out))) (below_size (xB HB.out))); replace HO395 := Aside0.mk (Kd.R_elder' (xR HO395.out) (Kd.R_base ho0) hb); replace HO399 := Aside0.mk (Kd.R_elder' (xR HO399.out) (Kd.R_base ho0) hb); replace HO403 := Aside0.mk (Kd.R_elder' (xR HO403.out) (Kd.R_base ho0) hb); replace HB := Aside0.mk (below_step (xB HB.out) hb); (try clear hb); (try clear hb2); (try clear hk); (try clear hi); (try clear ho0)) | (go_at_call 18; (with_reducible refine (spec_NearSamples.calls k _ _ t391 t392 t393 t408 t409 _ ?side1 ?side2 A9.out).mono ?_); (case side1 => exact xC ((Kd.R_reads' HO395.out).2.2)); (case side2 => exact (Kd.R_reads' HO395.out).2.1); rintro e w18 ⟨v410, rfl, ho0, hb⟩; have HO411 := Aside0.mk (Kd.R_lower (Kd.R_new' (Kd.R_new' (Kd.R_new' (Kd.R_new' ho0 (Kd.R_lt (xR HO395.out))) (Kd.R_lt (xR HO399.out))) (Kd.R_lt (xR HO403.out))) (Kd.R_lt (xR HO407.out))) (below_size (xB HB.out))); replace HO395 := Aside0.mk (Kd.R_elder' (xR HO395.out) (Kd.R_base ho0) hb); replace HO399 := Aside0.mk (Kd.R_elder' (xR HO399.out) (Kd.R_base ho0) hb); replace HO403 := Aside0.mk (Kd.R_elder' (xR HO403.out) (Kd.R_base ho0) hb); replace HO407 := Aside0.mk (Kd.R_elder' (xR HO407.out) (Kd.R_base ho0) hb); replace HB := Aside0.mk (below_step (xB HB.out) hb); (try clear hb); (try clear hb2); (try clear hk); (try clear hi); (try clear ho0)) | (go_at_call 19; (with_reducible refine (impl_LineSamples.calls k _ _ t391 t392 t393 t412 t413 _ ?side1 ?side2 A10.out).mono ?_); (case side1 => exact xC ((Kd.R_reads' HO395.out).2.2)); (case side2 => exact (Kd.R_reads' HO395.out).2.1); rintro e w19 ⟨v414, rfl, ho0, hb⟩; have HO415 := Aside0.mk (Kd.R_lower (Kd.R_new' (Kd.R_new' (Kd.R_new' (Kd.R_new' (Kd.R_new' ho0 (Kd.R_lt (xR HO395.out))) (Kd.R_lt (xR HO399.out))) (Kd.R_lt (xR HO403.out))) (Kd.R_lt (xR HO407.out))) (Kd.R_lt (xR HO411.out))) (below_size (xB HB.out))); replace HO395 := Aside0.mk (Kd.R_elder' (xR HO395.out) (Kd.R_base ho0) hb); replace HO399 := Aside0.mk (Kd.R_elder' (xR HO399.out) (Kd.R_base ho0) hb); replace HO403 := Aside0.mk (Kd.R_elder' (xR HO403.out) (Kd.R_base ho0) hb); replace HO407 := Aside0.mk (Kd.R_elder' (xR HO407.out) (Kd.R_base ho0) hb); replace HO411 := Aside0.mk (Kd.R_elder' (xR HO411.out) (Kd.R_base ho0) hb); replace HB := Aside0.mk (below_step (xB HB.out) hb); (try clear hb); (try clear hb2); (try clear hk); (try clear hi); (try clear ho0)) | (go_at_call 20; (with_reducible refine (spec_LineSamples.calls k _ _ t391 t392 t393 t416 t417 _ ?side1 ?side2 A11.out).mono ?_); (case side1 => exact xC ((Kd.R_reads' HO395.out).2.2)); (case side2 => exact (Kd.R_reads' HO395.out).2.1); rintro e w20 ⟨v418, rfl, ho0, hb⟩; have HO419 := Aside0.mk (Kd.R_lower (Kd.R_new' (Kd.R_new' (Kd.R_new' (Kd.R_new' (Kd.R_new' (Kd.R_new' ho0 (Kd.R_lt (xR HO395.out))) (Kd.R_lt (xR HO399.out))) (Kd.R_lt (xR HO403.out))) (Kd.R_lt (xR HO407.out))) (Kd.R_lt (xR HO411.out))) (Kd.R_lt (xR HO415.out))) (below_size (xB HB.out))); replace HO395 := Aside0.mk (Kd.R_elder' (xR HO395.out) (Kd.R_base ho0) hb); replace HO399 := Aside0.mk (Kd.R_elder' (xR HO399.out) (Kd.R_base ho0) hb); replace HO403 := Aside0.mk (Kd.R_elder' (xR HO403.out) (Kd.R_base ho0) hb); replace HO407 := Aside0.mk (Kd.R_elder' (xR HO407.out) (Kd.R_base ho0) hb); replace HO411 := Aside0.mk (Kd.R_elder' (xR HO411.out) (Kd.R_base ho0) hb); replace HO415 := Aside0.mk (Kd.R_elder' (xR HO415.out) (Kd.R_base ho0) hb); replace HB := Aside0.mk (below_step (xB HB.out) hb); (try clear hb); (try clear hb2); (try clear hk); (try clear hi); (try clear ho0))))
 (try any_goals exact (xU (by assumption)).elim)
 (try simp only [Act.put, List.setIfInBounds_toArray, List.set_cons_zero, List.set_cons_succ])
 go_cut [159] (fun v159 wc => ∃ (kq : Nat) (x159_11 : Bool), v159 = .bool x159_11 ∧ Aside0 (laws_FnRatesChanged.j0 kq l1 t391 t392 t393 t396 t397 t404 t412 t413 x159_11 = some r) ∧ Aside0 (kq ≤ k) ∧ Aside0 (Kd.R (Kd.int .i64) 3 wc w.heap.size (fun k_ => some k_ ≠ (v398 : Value).ownBlock ∧ some k_ ≠ (v406 : Value).ownBlock ∧ some k_ ≠ (v414 : Value).ownBlock) (.slice Ao14 t391.length co14) t391) ∧ Aside0 (Kd.R (Kd.int .i64) 3 wc w.heap.size (fun k_ => some k_ ≠ ((.slice Ao14 t391.length co14) : Value).ownBlock ∧ some k_ ≠ (v406 : Value).ownBlock ∧ some k_ ≠ (v414 : Value).ownBlock) v398 t396) ∧ Aside0 (Kd.R (Kd.int .i64) 3 wc w.heap.size (fun k_ => some k_ ≠ ((.slice Ao14 t391.length co14) : Value).ownBlock ∧ some k_ ≠ (v398 : Value).ownBlock ∧ some k_ ≠ (v414 : Value).ownBlock) v406 t404) ∧ Aside0 (Kd.R (Kd.int .i64) 3 wc w.heap.size (fun k_ => some k_ ≠ ((.slice Ao14 t391.length co14) : Value).ownBlock ∧ some k_ ≠ (v398 : Value).ownBlock ∧ some k_ ≠ (v406 : Value).ownBlock) v414 t412) ∧ Aside0 (Below w.heap.size w wc))
 case first => as_aux_lemma =>
  have H := HC12.out
  clear HC12
  by_cases c21 : (t397 != t401) = true
  ·rw [if_pos c21] at H; exact absurd H (by have hr_ := HRT.out; cases k <;> simp [laws_FnRatesChanged.j0, hr_])
  rw [if_neg c21] at H
  have c21b0 : (t397 != t401) = false := by simpa using c21
  (try (have c21b1 : decide (t397 = t401) = true := by simpa using c21))
  (try (have c21b2 : (t397 == t401) = true := by simpa using c21))
  clear c21
  (first | rw [c21b0] | (simp only [i64_w, i32_w]; rw [c21b0]) | skip)
  obtain ⟨t420, A22, H⟩ := xO H
  (try dsimp only at H)
  by_cases c23 : t420 = true
  rotate_left
  ·replace c23 := Bool.eq_false_iff.mpr c23; subst c23; exact absurd H (by have hr_ := HRT.out; cases k <;> simp [laws_FnRatesChanged.j0, hr_])
  subst c23
  rw [if_pos rfl] at H
  by_cases c24 : (t405 != t409) = true
  ·rw [if_pos c24] at H; exact absurd H (by have hr_ := HRT.out; cases k <;> simp [laws_FnRatesChanged.j0, hr_])
  rw [if_neg c24] at H
  have c24b0 : (t405 != t409) = false := by simpa using c24
  (try (have c24b1 : decide (t405 = t409) = true := by simpa using c24))
  (try (have c24b2 : (t405 == t409) = true := by simpa using c24))
  clear c24
  obtain ⟨t421, A25, H⟩ := xO H
  (try dsimp only at H)
  by_cases c26 : t421 = true
  rotate_left
  ·replace c26 := Bool.eq_false_iff.mpr c26; subst c26; exact absurd H (by have hr_ := HRT.out; cases k <;> simp [laws_FnRatesChanged.j0, hr_])
  subst c26
  rw [if_pos rfl] at H
  by_cases c27 : (t413 != t417) = true
  ·rw [if_pos c27] at H; exact absurd H (by have hr_ := HRT.out; cases k <;> simp [laws_FnRatesChanged.j0, hr_])
  rw [if_neg c27] at H
  have c27b0 : (t413 != t417) = false := by simpa using c27
  (try (have c27b1 : decide (t413 = t417) = true := by simpa using c27))
  (try (have c27b2 : (t413 == t417) = true := by simpa using c27))
  clear c27
  obtain ⟨t422, A28, H⟩ := xO H
  (try dsimp only at H)
  by_cases c29 : t422 = true
  rotate_left
  ·replace c29 := Bool.eq_false_iff.mpr c29; subst c29; exact absurd H (by have hr_ := HRT.out; cases k <;> simp [laws_FnRatesChanged.j0, hr_])
  as_aux_lemma =>
   subst c29
   rw [if_pos rfl] at H
   by_cases c30 : (t405 != t397) = true
   ·rw [if_pos c30] at H; exact absurd H (by have hr_ := HRT.out; cases k <;> simp [laws_FnRatesChanged.j0, hr_])
   rw [if_neg c30] at H
   have c30b0 : (t405 != t397) = false := by simpa using c30
   (try (have c30b1 : decide (t405 = t397) = true := by simpa using c30))
   (try (have c30b2 : (t405 == t397) = true := by simpa using c30))
   clear c30
   by_cases c31 : t413 = true
   ·as_aux_lemma =>
      subst c31
      rw [if_pos rfl] at H
      have H' := Aside0.mk H
      clear H
      obtain ⟨Ao32, co32, eo32⟩ := Kd.R_slice HO399.out
      subst eo32
      obtain ⟨Ao33, co33, eo33⟩ := Kd.R_slice HO403.out
      subst eo33
      go_wp2_with (first | (go_at_call 21; (with_reducible refine (laws_iSame.calls k _ _ t396 _ _ t400 true _ ?side1 ?side2 ?side3 ?side4 A22.out).mono ?_); (case side1 => exact xC ((Kd.R_reads' HO399.out).2.2)); (case side2 => exact (Kd.R_reads' HO399.out).2.1); (case side3 => exact xC ((Kd.R_reads' HO403.out).2.2)); (case side4 => exact (Kd.R_reads' HO403.out).2.1); rintro e w' ⟨rfl, ⟨nd, rfl⟩⟩; (try exact xD); obtain ⟨Ao34, co34, eo34⟩ := Kd.R_slice HO407.out; subst eo34; obtain ⟨Ao35, co35, eo35⟩ := Kd.R_slice HO411.out; subst eo35) | (go_at_call 21; (with_reducible refine (laws_iSame.calls k _ _ t404 _ _ t408 true _ ?side1 ?side2 ?side3 ?side4 A25.out).mono ?_); (case side1 => exact xC ((Kd.R_reads' HO407.out).2.2)); (case side2 => exact (Kd.R_reads' HO407.out).2.1); (case side3 => exact xC ((Kd.R_reads' HO411.out).2.2)); (case side4 => exact (Kd.R_reads' HO411.out).2.1); rintro e w' ⟨rfl, ⟨nd, rfl⟩⟩; (try exact xD); obtain ⟨Ao36, co36, eo36⟩ := Kd.R_slice HO415.out; subst eo36; obtain ⟨Ao37, co37, eo37⟩ := Kd.R_slice HO419.out; subst eo37) | (go_at_call 21; (with_reducible refine (laws_iSame.calls k _ _ t412 _ _ t416 true _ ?side1 ?side2 ?side3 ?side4 A28.out).mono ?_); (case side1 => exact xC ((Kd.R_reads' HO415.out).2.2)); (case side2 => exact (Kd.R_reads' HO415.out).2.1); (case side3 => exact xC ((Kd.R_reads' HO419.out).2.2)); (case side4 => exact (Kd.R_reads' HO419.out).2.1); rintro e w' ⟨rfl, ⟨nd, rfl⟩⟩; (try exact xD)))
      (try any_goals exact (xU (by assumption)).elim)
      repeat (go_quiet (first | (go_at_call 21; (with_reducible refine (laws_iSame.calls k _ _ t396 _ _ t400 true _ ?side1 ?side2 ?side3 ?side4 A22.out).mono ?_); (case side1 => exact xC ((Kd.R_reads' HO399.out).2.2)); (case side2 => exact (Kd.R_reads' HO399.out).2.1); (case side3 => exact xC ((Kd.R_reads' HO403.out).2.2)); (case side4 => exact (Kd.R_reads' HO403.out).2.1); rintro e w' ⟨rfl, ⟨nd, rfl⟩⟩; (try exact xD); obtain ⟨Ao34, co34, eo34⟩ := Kd.R_slice HO407.out; subst eo34; obtain ⟨Ao35, co35, eo35⟩ := Kd.R_slice HO411.out; subst eo35) | (go_at_call 21; (with_reducible refine (laws_iSame.calls k _ _ t404 _ _ t408 true _ ?side1 ?side2 ?side3 ?side4 A25.out).mono ?_); (case side1 => exact xC ((Kd.R_reads' HO407.out).2.2)); (case side2 => exact (Kd.R_reads' HO407.out).2.1); (case side3 => exact xC ((Kd.R_reads' HO411.out).2.2)); (case side4 => exact (Kd.R_reads' HO411.out).2.1); rintro e w' ⟨rfl, ⟨nd, rfl⟩⟩; (try exact xD); obtain ⟨Ao36, co36, eo36⟩ := Kd.R_slice HO415.out; subst eo36; obtain ⟨Ao37, co37, eo37⟩ := Kd.R_slice HO419.out; subst eo37) | (go_at_call 21; (with_reducible refine (laws_iSame.calls k _ _ t412 _ _ t416 true _ ?side1 ?side2 ?side3 ?side4 A28.out).mono ?_); (case side1 => exact xC ((Kd.R_reads' HO415.out).2.2)); (case side2 => exact (Kd.R_reads' HO415.out).2.1); (case side3 => exact xC ((Kd.R_reads' HO419.out).2.2)); (case side4 => exact (Kd.R_reads' HO419.out).2.1); rintro e w' ⟨rfl, ⟨nd, rfl⟩⟩; (try exact xD))); try go_wp2_with (first | (go_at_call 21; (with_reducible refine (laws_iSame.calls k _ _ t396 _ _ t400 true _ ?side1 ?side2 ?side3 ?side4 A22.out).mono ?_); (case side1 => exact xC ((Kd.R_reads' HO399.out).2.2)); (case side2 => exact (Kd.R_reads' HO399.out).2.1); (case side3 => exact xC ((Kd.R_reads' HO403.out).2.2)); (case side4 => exact (Kd.R_reads' HO403.out).2.1); rintro e w' ⟨rfl, ⟨nd, rfl⟩⟩; (try exact xD); obtain ⟨Ao34, co34, eo34⟩ := Kd.R_slice HO407.out; subst eo34; obtain ⟨Ao35, co35, eo35⟩ := Kd.R_slice HO411.out; subst eo35) | (go_at_call 21; (with_reducible refine (laws_iSame.calls k _ _ t404 _ _ t408 true _ ?side1 ?side2 ?side3 ?side4 A25.out).mono ?_); (case side1 => exact xC ((Kd.R_reads' HO407.out).2.2)); (case side2 => exact (Kd.R_reads' HO407.out).2.1); (case side3 => exact xC ((Kd.R_reads' HO411.out).2.2)); (case side4 => exact (Kd.R_reads' HO411.out).2.1); rintro e w' ⟨rfl, ⟨nd, rfl⟩⟩; (try exact xD); obtain ⟨Ao36, co36, eo36⟩ := Kd.R_slice HO415.out; subst eo36; obtain ⟨Ao37, co37, eo37⟩ := Kd.R_slice HO419.out; subst eo37) | (go_at_call 21; (with_reducible refine (laws_iSame.calls k _ _ t412 _ _ t416 true _ ?side1 ?side2 ?side3 ?side4 A28.out).mono ?_); (case side1 => exact xC ((Kd.R_reads' HO415.out).2.2)); (case side2 => exact (Kd.R_reads' HO415.out).2.1); (case side3 => exact xC ((Kd.R_reads' HO419.out).2.2)); (case side4 => exact (Kd.R_reads' HO419.out).2.1); rintro e w' ⟨rfl, ⟨nd, rfl⟩⟩; (try exact xD))))
      (try any_goals exact (xU (by assumption)).elim)
      go_meet
      case rel => exact ⟨_, (!t397), (by first | rfl | (simp; done) | (simp [*]; done)), H', ⟨by first | omega | exact Nat.le_refl _⟩, ⟨by (with_reducible repeat (first | apply Kd.R_alloc | apply Kd.R_drewN | apply Kd.R_drew)); exact Kd.R_mono HO395.out (fun _ hk => ⟨hk.1.1.1.1.1.2, ⟨hk.1.1.1.2, hk.1.2⟩⟩)⟩, ⟨by (with_reducible repeat (first | apply Kd.R_alloc | apply Kd.R_drewN | apply Kd.R_drew)); exact Kd.R_mono HO399.out (fun _ hk => ⟨hk.1.1.1.1.1.2, ⟨hk.1.1.1.2, hk.1.2⟩⟩)⟩, ⟨by (with_reducible repeat (first | apply Kd.R_alloc | apply Kd.R_drewN | apply Kd.R_drew)); exact Kd.R_mono HO407.out (fun _ hk => ⟨hk.1.1.1.1.1.2, ⟨hk.1.1.1.1.2, hk.1.2⟩⟩)⟩, ⟨by (with_reducible repeat (first | apply Kd.R_alloc | apply Kd.R_drewN | apply Kd.R_drew)); exact Kd.R_mono HO415.out (fun _ hk => ⟨hk.1.1.1.1.1.2, ⟨hk.1.1.1.1.2, hk.1.1.2⟩⟩)⟩, ⟨xB HB.out⟩⟩
   replace c31 := Bool.eq_false_iff.mpr c31
   subst c31
   rw [if_neg (show ¬ (false = true) by decide)] at H
   have H' := Aside0.mk H
   clear H
   obtain ⟨Ao38, co38, eo38⟩ := Kd.R_slice HO399.out
   subst eo38
   obtain ⟨Ao39, co39, eo39⟩ := Kd.R_slice HO403.out
   subst eo39
   go_wp2_with (first | (go_at_call 21; (with_reducible refine (laws_iSame.calls k _ _ t396 _ _ t400 true _ ?side1 ?side2 ?side3 ?side4 A22.out).mono ?_); (case side1 => exact xC ((Kd.R_reads' HO399.out).2.2)); (case side2 => exact (Kd.R_reads' HO399.out).2.1); (case side3 => exact xC ((Kd.R_reads' HO403.out).2.2)); (case side4 => exact (Kd.R_reads' HO403.out).2.1); rintro e w' ⟨rfl, ⟨nd, rfl⟩⟩; (try exact xD); obtain ⟨Ao40, co40, eo40⟩ := Kd.R_slice HO407.out; subst eo40; obtain ⟨Ao41, co41, eo41⟩ := Kd.R_slice HO411.out; subst eo41) | (go_at_call 21; (with_reducible refine (laws_iSame.calls k _ _ t404 _ _ t408 true _ ?side1 ?side2 ?side3 ?side4 A25.out).mono ?_); (case side1 => exact xC ((Kd.R_reads' HO407.out).2.2)); (case side2 => exact (Kd.R_reads' HO407.out).2.1); (case side3 => exact xC ((Kd.R_reads' HO411.out).2.2)); (case side4 => exact (Kd.R_reads' HO411.out).2.1); rintro e w' ⟨rfl, ⟨nd, rfl⟩⟩; (try exact xD); obtain ⟨Ao42, co42, eo42⟩ := Kd.R_slice HO415.out; subst eo42; obtain ⟨Ao43, co43, eo43⟩ := Kd.R_slice HO419.out; subst eo43) | (go_at_call 21; (with_reducible refine (laws_iSame.calls k _ _ t412 _ _ t416 true _ ?side1 ?side2 ?side3 ?side4 A28.out).mono ?_); (case side1 => exact xC ((Kd.R_reads' HO415.out).2.2)); (case side2 => exact (Kd.R_reads' HO415.out).2.1); (case side3 => exact xC ((Kd.R_reads' HO419.out).2.2)); (case side4 => exact (Kd.R_reads' HO419.out).2.1); rintro e w' ⟨rfl, ⟨nd, rfl⟩⟩; (try exact xD)))
   (try any_goals exact (xU (by assumption)).elim)
   repeat (go_quiet (first | (go_at_call 21; (with_reducible refine (laws_iSame.calls k _ _ t396 _ _ t400 true _ ?side1 ?side2 ?side3 ?side4 A22.out).mono ?_); (case side1 => exact xC ((Kd.R_reads' HO399.out).2.2)); (case side2 => exact (Kd.R_reads' HO399.out).2.1); (case side3 => exact xC ((Kd.R_reads' HO403.out).2.2)); (case side4 => exact (Kd.R_reads' HO403.out).2.1); rintro e w' ⟨rfl, ⟨nd, rfl⟩⟩; (try exact xD); obtain ⟨Ao40, co40, eo40⟩ := Kd.R_slice HO407.out; subst eo40; obtain ⟨Ao41, co41, eo41⟩ := Kd.R_slice HO411.out; subst eo41) | (go_at_call 21; (with_reducible refine (laws_iSame.calls k _ _ t404 _ _ t408 true _ ?side1 ?side2 ?side3 ?side4 A25.out).mono ?_); (case side1 => exact xC ((Kd.R_reads' HO407.out).2.2)); (case side2 => exact (Kd.R_reads' HO407.out).2.1); (case side3 => exact xC ((Kd.R_reads' HO411.out).2.2)); (case side4 => exact (Kd.R_reads' HO411.out).2.1); rintro e w' ⟨rfl, ⟨nd, rfl⟩⟩; (try exact xD); obtain ⟨Ao42, co42, eo42⟩ := Kd.R_slice HO415.out; subst eo42; obtain ⟨Ao43, co43, eo43⟩ := Kd.R_slice HO419.out; subst eo43) | (go_at_call 21; (with_reducible refine (laws_iSame.calls k _ _ t412 _ _ t416 true _ ?side1 ?side2 ?side3 ?side4 A28.out).mono ?_); (case side1 => exact xC ((Kd.R_reads' HO415.out).2.2)); (case side2 => exact (Kd.R_reads' HO415.out).2.1); (case side3 => exact xC ((Kd.R_reads' HO419.out).2.2)); (case side4 => exact (Kd.R_reads' HO419.out).2.1); rintro e w' ⟨rfl, ⟨nd, rfl⟩⟩; (try exact xD))); try go_wp2_with (first | (go_at_call 21; (with_reducible refine (laws_iSame.calls k _ _ t396 _ _ t400 true _ ?side1 ?side2 ?side3 ?side4 A22.out).mono ?_); (case side1 => exact xC ((Kd.R_reads' HO399.out).2.2)); (case side2 => exact (Kd.R_reads' HO399.out).2.1); (case side3 => exact xC ((Kd.R_reads' HO403.out).2.2)); (case side4 => exact (Kd.R_reads' HO403.out).2.1); rintro e w' ⟨rfl, ⟨nd, rfl⟩⟩; (try exact xD); obtain ⟨Ao40, co40, eo40⟩ := Kd.R_slice HO407.out; subst eo40; obtain ⟨Ao41, co41, eo41⟩ := Kd.R_slice HO411.out; subst eo41) | (go_at_call 21; (with_reducible refine (laws_iSame.calls k _ _ t404 _ _ t408 true _ ?side1 ?side2 ?side3 ?side4 A25.out).mono ?_); (case side1 => exact xC ((Kd.R_reads' HO407.out).2.2)); (case side2 => exact (Kd.R_reads' HO407.out).2.1); (case side3 => exact xC ((Kd.R_reads' HO411.out).2.2)); (case side4 => exact (Kd.R_reads' HO411.out).2.1); rintro e w' ⟨rfl, ⟨nd, rfl⟩⟩; (try exact xD); obtain ⟨Ao42, co42, eo42⟩ := Kd.R_slice HO415.out; subst eo42; obtain ⟨Ao43, co43, eo43⟩ := Kd.R_slice HO419.out; subst eo43) | (go_at_call 21; (with_reducible refine (laws_iSame.calls k _ _ t412 _ _ t416 true _ ?side1 ?side2 ?side3 ?side4 A28.out).mono ?_); (case side1 => exact xC ((Kd.R_reads' HO415.out).2.2)); (case side2 => exact (Kd.R_reads' HO415.out).2.1); (case side3 => exact xC ((Kd.R_reads' HO419.out).2.2)); (case side4 => exact (Kd.R_reads' HO419.out).2.1); rintro e w' ⟨rfl, ⟨nd, rfl⟩⟩; (try exact xD))))
   (try any_goals exact (xU (by assumption)).elim)
   go_meet
   case rel => exact ⟨_, (false), (by first | rfl | (simp; done) | (simp [*]; done)), H', ⟨by first | omega | exact Nat.le_refl _⟩, ⟨by (with_reducible repeat (first | apply Kd.R_alloc | apply Kd.R_drewN | apply Kd.R_drew)); exact Kd.R_mono HO395.out (fun _ hk => ⟨hk.1.1.1.1.1.2, ⟨hk.1.1.1.2, hk.1.2⟩⟩)⟩, ⟨by (with_reducible repeat (first | apply Kd.R_alloc | apply Kd.R_drewN | apply Kd.R_drew)); exact Kd.R_mono HO399.out (fun _ hk => ⟨hk.1.1.1.1.1.2, ⟨hk.1.1.1.2, hk.1.2⟩⟩)⟩, ⟨by (with_reducible repeat (first | apply Kd.R_alloc | apply Kd.R_drewN | apply Kd.R_drew)); exact Kd.R_mono HO407.out (fun _ hk => ⟨hk.1.1.1.1.1.2, ⟨hk.1.1.1.1.2, hk.1.2⟩⟩)⟩, ⟨by (with_reducible repeat (first | apply Kd.R_alloc | apply Kd.R_drewN | apply Kd.R_drew)); exact Kd.R_mono HO415.out (fun _ hk => ⟨hk.1.1.1.1.1.2, ⟨hk.1.1.1.1.2, hk.1.1.2⟩⟩)⟩, ⟨xB HB.out⟩⟩
 case rest => as_aux_lemma =>
  clear HC12
  try clear c1
  try clear c4
  obtain ⟨kq, x159_11, rfl, HA, HJ11, HO_5, HO_8, HO_12, HO_16, HB⟩ := hcut
  cases kq with
  | zero => exact absurd HA.out (by simp [laws_FnRatesChanged.j0])
  | succ kj11 =>
   have H := HA.out
   clear HA
   simp only [laws_FnRatesChanged.j0] at H
   by_cases c44 : x159_11 = true
   ·as_aux_lemma =>
     subst c44
     rw [if_pos rfl] at H
     exact absurd ((Option.some.inj H).trans HRT.out) (by decide)
   replace c44 := Bool.eq_false_iff.mpr c44
   subst c44
   rw [if_neg (show ¬ (false = true) by decide)] at H
   have HC45 := Aside0.mk H
   clear H
   go_upto_if 160 with (fail)
   repeat (go_quiet (fail); go_upto_if 160 with (fail))
   (try any_goals exact (xU (by assumption)).elim)
   go_cut [] (fun wc => ∃ (kq : Nat), Aside0 (laws_FnRatesChanged.j6 kq l1 = some r) ∧ Aside0 (kq ≤ kj11) ∧ Aside0 (Below w.heap.size w wc))
   case first => as_aux_lemma =>
    have H := HC45.out
    clear HC45
    by_cases c46 : t397 = true
    rotate_left
    ·as_aux_lemma =>
      replace c46 := Bool.eq_false_iff.mpr c46
      subst c46
      rw [if_neg (show ¬ (false = true) by decide)] at H
      have H' := Aside0.mk H
      clear H
      go_wp2
      (try any_goals exact (xU (by assumption)).elim)
      repeat (go_quiet (fail); try go_wp2)
      (try any_goals exact (xU (by assumption)).elim)
      go_meet
      case rel => exact ⟨_, H', ⟨by have := HJ11.out; first | omega | exact Nat.le_refl _⟩, ⟨xB HB.out⟩⟩
    subst c46
    rw [if_pos rfl] at H
    replace H := Option.bind_eq_some_iff.mp H
    obtain ⟨⟨t423, t424⟩, A470, H⟩ := H
    (try dsimp only at H)
    have A47 := Aside0.mk A470
    clear A470
    have HC48 := Aside0.mk H
    clear H
    go_upto_region 14 with (first | (go_at_call 22; (with_reducible refine (impl_LengthAfter.calls (t391.length : Int) t392 t393 t423 t424 _ A47.out).mono ?_); rintro e w' ⟨rfl, ⟨nd, rfl⟩⟩; (try exact xD)))
    repeat (go_quiet (first | (go_at_call 22; (with_reducible refine (impl_LengthAfter.calls (t391.length : Int) t392 t393 t423 t424 _ A47.out).mono ?_); rintro e w' ⟨rfl, ⟨nd, rfl⟩⟩; (try exact xD))); go_upto_region 14 with (first | (go_at_call 22; (with_reducible refine (impl_LengthAfter.calls (t391.length : Int) t392 t393 t423 t424 _ A47.out).mono ?_); rintro e w' ⟨rfl, ⟨nd, rfl⟩⟩; (try exact xD))))
    (try any_goals exact (xU (by assumption)).elim)
    (try simp only [Act.put, List.setIfInBounds_toArray, List.set_cons_zero, List.set_cons_succ])
    go_cut [191] (fun v191 wc => ∃ (kq : Nat) (x191_47 : Bool), v191 = .bool x191_47 ∧ Aside0 (laws_FnRatesChanged.j1 kq l1 t391 t392 t393 t396 t404 t412 t413 x191_47 = some r) ∧ Aside0 (kq ≤ kj11) ∧ Aside0 (Kd.R (Kd.int .i64) 3 wc w.heap.size (fun k_ => some k_ ≠ (v398 : Value).ownBlock ∧ some k_ ≠ (v406 : Value).ownBlock ∧ some k_ ≠ (v414 : Value).ownBlock) (.slice Ao14 t391.length co14) t391) ∧ Aside0 (Kd.R (Kd.int .i64) 3 wc w.heap.size (fun k_ => some k_ ≠ ((.slice Ao14 t391.length co14) : Value).ownBlock ∧ some k_ ≠ (v406 : Value).ownBlock ∧ some k_ ≠ (v414 : Value).ownBlock) v398 t396) ∧ Aside0 (Kd.R (Kd.int .i64) 3 wc w.heap.size (fun k_ => some k_ ≠ ((.slice Ao14 t391.length co14) : Value).ownBlock ∧ some k_ ≠ (v398 : Value).ownBlock ∧ some k_ ≠ (v414 : Value).ownBlock) v406 t404) ∧ Aside0 (Kd.R (Kd.int .i64) 3 wc w.heap.size (fun k_ => some k_ ≠ ((.slice Ao14 t391.length co14) : Value).ownBlock ∧ some k_ ≠ (v398 : Value).ownBlock ∧ some k_ ≠ (v406 : Value).ownBlock) v414 t412) ∧ Aside0 (Below w.heap.size w wc))
    case first => as_aux_lemma =>
     have H := HC48.out
     clear HC48
     by_cases c49 : t424 = true
     rotate_left
     ·replace c49 := Bool.eq_false_iff.mpr c49; subst c49; exact absurd H (by have hr_ := HRT.out; cases kj11 <;> simp [laws_FnRatesChanged.j1, hr_])
     subst c49
     rw [if_pos rfl] at H
     by_cases c50 : (t396.length : Int) = t423
     rotate_left
     ·rw [if_neg c50] at H; exact absurd H (by have hr_ := HRT.out; cases kj11 <;> simp [laws_FnRatesChanged.j1, hr_])
     as_aux_lemma =>
      rw [if_pos c50] at H
      have c50b0 : ((t396.length : Int) == t423) = true := beq_iff_eq.mpr c50
      have c50b1 : ((t396.length : Int) != t423) = false := bne_eq_false_iff_eq.mpr c50
      clear c50
      (first | rw [c50b0] | (simp only [i64_w, i32_w]; rw [c50b0]) | skip)
      by_cases c51 : (t404.length : Int) = t423
      rotate_left
      ·rw [if_neg c51] at H; exact absurd H (by have hr_ := HRT.out; cases kj11 <;> simp [laws_FnRatesChanged.j1, hr_])
      rw [if_pos c51] at H
      have c51b0 : ((t404.length : Int) == t423) = true := beq_iff_eq.mpr c51
      have c51b1 : ((t404.length : Int) != t423) = false := bne_eq_false_iff_eq.mpr c51
      clear c51
      by_cases c52 : t413 = true
      rotate_left
      ·as_aux_lemma =>
         replace c52 := Bool.eq_false_iff.mpr c52
         subst c52
         rw [if_neg (show ¬ (false = true) by decide)] at H
         have H' := Aside0.mk H
         clear H
         obtain ⟨Ao56, co56, eo56⟩ := Kd.R_slice HO_8.out
         subst eo56
         obtain ⟨Ao57, co57, eo57⟩ := Kd.R_slice HO_12.out
         subst eo57
         go_wp2
         (try any_goals exact (xU (by assumption)).elim)
         repeat (go_quiet (fail); try go_wp2)
         (try any_goals exact (xU (by assumption)).elim)
         go_meet
         case rel => exact ⟨_, (false), (by first | rfl | (simp; done) | (simp [*]; done)), H', ⟨by have := HJ11.out; first | omega | exact Nat.le_refl _⟩, ⟨xR HO_5.out⟩, ⟨xR HO_8.out⟩, ⟨xR HO_12.out⟩, ⟨xR HO_16.out⟩, ⟨xB HB.out⟩⟩
      subst c52
      rw [if_pos rfl] at H
      have H' := Aside0.mk H
      clear H
      obtain ⟨Ao53, co53, eo53⟩ := Kd.R_slice HO_8.out
      subst eo53
      obtain ⟨Ao54, co54, eo54⟩ := Kd.R_slice HO_12.out
      subst eo54
      obtain ⟨Ao55, co55, eo55⟩ := Kd.R_slice HO_16.out
      subst eo55
      go_wp2
      (try any_goals exact (xU (by assumption)).elim)
      repeat (go_quiet (fail); try go_wp2)
      (try any_goals exact (xU (by assumption)).elim)
      go_meet
      case rel => exact ⟨_, (((t412.length : Int) != t423)), (by first | rfl | (simp; done) | (simp [*]; done)), H', ⟨by have := HJ11.out; first | omega | exact Nat.le_refl _⟩, ⟨xR HO_5.out⟩, ⟨xR HO_8.out⟩, ⟨xR HO_12.out⟩, ⟨xR HO_16.out⟩, ⟨xB HB.out⟩⟩
    case rest => as_aux_lemma =>
     clear HC48
     try clear c44
     try clear c46
     obtain ⟨kq, x191_47, rfl, HA, HJ47, HO_5, HO_8, HO_12, HO_16, HB⟩ := hcut
     cases kq with
     | zero => exact absurd HA.out (by simp [laws_FnRatesChanged.j1])
     | succ kj47 =>
      have H := HA.out
      clear HA
      simp only [laws_FnRatesChanged.j1] at H
      by_cases c58 : x191_47 = true
      ·as_aux_lemma =>
        subst c58
        rw [if_pos rfl] at H
        exact absurd ((Option.some.inj H).trans HRT.out) (by decide)
      replace c58 := Bool.eq_false_iff.mpr c58
      subst c58
      rw [if_neg (show ¬ (false = true) by decide)] at H
      have H' := Aside0.mk H
      clear H
      obtain ⟨Ao59, co59, eo59⟩ := Kd.R_slice HO_8.out
      subst eo59
      go_wp2
      (try any_goals exact (xU (by assumption)).elim)
      repeat (go_quiet (fail); try go_wp2)
      (try any_goals exact (xU (by assumption)).elim)
      go_loopg [194] kj47 (fun kq v194 w' => ∃ (x194_3 : Int), v194 = .int .i64 x194_3 ∧ Aside0 (laws_FnRatesChanged.l0 kq l1 t391 t392 t393 t396 t404 t412 t413 (t396.length : Int) x194_3 = some r) ∧ Aside0 (kq ≤ kj47) ∧ Aside0 (Kd.R (Kd.int .i64) 3 w' w.heap.size (fun k_ => some k_ ≠ ((.slice Ao59 t396.length co59) : Value).ownBlock ∧ some k_ ≠ (v406 : Value).ownBlock ∧ some k_ ≠ (v414 : Value).ownBlock) (.slice Ao14 t391.length co14) t391) ∧ Aside0 (Kd.R (Kd.int .i64) 3 w' w.heap.size (fun k_ => some k_ ≠ ((.slice Ao14 t391.length co14) : Value).ownBlock ∧ some k_ ≠ (v406 : Value).ownBlock ∧ some k_ ≠ (v414 : Value).ownBlock) (.slice Ao59 t396.length co59) t396) ∧ Aside0 (Kd.R (Kd.int .i64) 3 w' w.heap.size (fun k_ => some k_ ≠ ((.slice Ao14 t391.length co14) : Value).ownBlock ∧ some k_ ≠ ((.slice Ao59 t396.length co59) : Value).ownBlock ∧ some k_ ≠ (v414 : Value).ownBlock) v406 t404) ∧ Aside0 (Kd.R (Kd.int .i64) 3 w' w.heap.size (fun k_ => some k_ ≠ ((.slice Ao14 t391.length co14) : Value).ownBlock ∧ some k_ ≠ ((.slice Ao59 t396.length co59) : Value).ownBlock ∧ some k_ ≠ (v406 : Value).ownBlock) v414 t412) ∧ Aside0 (Below w.heap.size w w'))
      case atStart => exact ⟨(0), (by first | rfl | (simp; done) | (simp [*]; done)), H', ⟨Nat.le_refl _⟩, ⟨xR HO_5.out⟩, ⟨xR HO_8.out⟩, ⟨xR HO_12.out⟩, ⟨xR HO_16.out⟩, ⟨xB HB.out⟩⟩
      case round =>
       clear H'
       try clear c58
       obtain ⟨x194_3, rfl, HA, HK3, HO_5, HO_8, HO_12, HO_16, HB⟩ := hrel
       cases gk with
       | zero => exact absurd HA.out (by simp [laws_FnRatesChanged.l0])
       | succ k3 =>
        have H := HA.out
        clear HA
        simp only [laws_FnRatesChanged.l0] at H
        by_cases c60 : x194_3 < (t396.length : Int)
        rotate_left
        ·rw [if_neg c60] at H
         have c60b0 : decide (x194_3 < (t396.length : Int)) = false := decide_eq_false c60
         clear c60
         replace H := Option.bind_eq_some_iff.mp H
         obtain ⟨⟨t451, t452, t453⟩, A1190, H⟩ := H
         (try dsimp only at H)
         have A119 := Aside0.mk A1190
         clear A1190
         replace H := Option.bind_eq_some_iff.mp H
         obtain ⟨⟨t454, t455⟩, A1200, H⟩ := H
         (try dsimp only at H)
         have A120 := Aside0.mk A1200
         clear A1200
         by_cases c121 : t453 = true
         rotate_left
         ·as_aux_lemma =>
           replace c121 := Bool.eq_false_iff.mpr c121
           subst c121
           rw [if_neg (show ¬ (false = true) by decide)] at H
           exact absurd ((Option.some.inj H).trans HRT.out) (by decide)
         as_aux_lemma =>
          subst c121
          rw [if_pos rfl] at H
          by_cases c122 : t455 = true
          rotate_left
          ·replace c122 := Bool.eq_false_iff.mpr c122
           subst c122
           rw [if_neg (show ¬ (false = true) by decide)] at H
           exact absurd ((Option.some.inj H).trans HRT.out) (by decide)
          subst c122
          rw [if_pos rfl] at H
          obtain ⟨t458, A123, H⟩ := xO H
          (try dsimp only at H)
          by_cases c124 : t458 = true
          rotate_left
          ·replace c124 := Bool.eq_false_iff.mpr c124
           subst c124
           rw [if_neg (show ¬ (false = true) by decide)] at H
           exact absurd ((Option.some.inj H).trans HRT.out) (by decide)
          subst c124
          rw [if_pos rfl] at H
          have H' := Aside0.mk H
          clear H
          go_wp2_with (first | (go_at_call 24; (with_reducible refine (impl_LeastRatio.calls k3 t392 t393 t451 t452 true _ A119.out).mono ?_); rintro e w125 ⟨rfl, hb⟩; replace HO_5 := Aside0.mk (Kd.R_below (xR HO_5.out) hb); replace HO_8 := Aside0.mk (Kd.R_below (xR HO_8.out) hb); replace HO_12 := Aside0.mk (Kd.R_below (xR HO_12.out) hb); replace HO_16 := Aside0.mk (Kd.R_below (xR HO_16.out) hb); replace HB := Aside0.mk (below_step (xB HB.out) hb); (try clear hb); (try clear hb2); (try clear hk); (try clear hi)) | (go_at_call 15; (with_reducible refine (impl_HoldSamples.calls k3 _ _ t391 t451 t452 t454 true _ ?side1 ?side2 A120.out).mono ?_); (case side1 => exact xC ((Kd.R_reads' HO_5.out).2.2)); (case side2 => exact (Kd.R_reads' HO_5.out).2.1); rintro e w126 ⟨v456, rfl, ho0, hb⟩; have HO457 := Aside0.mk (Kd.R_lower (Kd.R_new' (Kd.R_new' (Kd.R_new' (Kd.R_new' ho0 (Kd.R_lt (xR HO_5.out))) (Kd.R_lt (xR HO_8.out))) (Kd.R_lt (xR HO_12.out))) (Kd.R_lt (xR HO_16.out))) (below_size (xB HB.out))); replace HO_5 := Aside0.mk (Kd.R_elder' (xR HO_5.out) (Kd.R_base ho0) hb); replace HO_8 := Aside0.mk (Kd.R_elder' (xR HO_8.out) (Kd.R_base ho0) hb); replace HO_12 := Aside0.mk (Kd.R_elder' (xR HO_12.out) (Kd.R_base ho0) hb); replace HO_16 := Aside0.mk (Kd.R_elder' (xR HO_16.out) (Kd.R_base ho0) hb); replace HB := Aside0.mk (below_step (xB HB.out) hb); (try clear hb); (try clear hb2); (try clear hk); (try clear hi); (try clear ho0); obtain ⟨Ao127, co127, eo127⟩ := Kd.R_slice HO457.out; subst eo127) | (go_at_call 21; (with_reducible refine (laws_iSame.calls k3 _ _ t454 _ _ t396 true _ ?side1 ?side2 ?side3 ?side4 A123.out).mono ?_); (case side1 => exact xC ((Kd.R_reads' HO457.out).2.2)); (case side2 => exact (Kd.R_reads' HO457.out).2.1); (case side3 => exact xC ((Kd.R_reads' HO_8.out).2.2)); (case side4 => exact (Kd.R_reads' HO_8.out).2.1); rintro e w' ⟨rfl, ⟨nd, rfl⟩⟩; (try exact xD)))
          (try any_goals exact (xU (by assumption)).elim)
          repeat (go_quiet (first | (go_at_call 24; (with_reducible refine (impl_LeastRatio.calls k3 t392 t393 t451 t452 true _ A119.out).mono ?_); rintro e w125 ⟨rfl, hb⟩; replace HO_5 := Aside0.mk (Kd.R_below (xR HO_5.out) hb); replace HO_8 := Aside0.mk (Kd.R_below (xR HO_8.out) hb); replace HO_12 := Aside0.mk (Kd.R_below (xR HO_12.out) hb); replace HO_16 := Aside0.mk (Kd.R_below (xR HO_16.out) hb); replace HB := Aside0.mk (below_step (xB HB.out) hb); (try clear hb); (try clear hb2); (try clear hk); (try clear hi)) | (go_at_call 15; (with_reducible refine (impl_HoldSamples.calls k3 _ _ t391 t451 t452 t454 true _ ?side1 ?side2 A120.out).mono ?_); (case side1 => exact xC ((Kd.R_reads' HO_5.out).2.2)); (case side2 => exact (Kd.R_reads' HO_5.out).2.1); rintro e w126 ⟨v456, rfl, ho0, hb⟩; have HO457 := Aside0.mk (Kd.R_lower (Kd.R_new' (Kd.R_new' (Kd.R_new' (Kd.R_new' ho0 (Kd.R_lt (xR HO_5.out))) (Kd.R_lt (xR HO_8.out))) (Kd.R_lt (xR HO_12.out))) (Kd.R_lt (xR HO_16.out))) (below_size (xB HB.out))); replace HO_5 := Aside0.mk (Kd.R_elder' (xR HO_5.out) (Kd.R_base ho0) hb); replace HO_8 := Aside0.mk (Kd.R_elder' (xR HO_8.out) (Kd.R_base ho0) hb); replace HO_12 := Aside0.mk (Kd.R_elder' (xR HO_12.out) (Kd.R_base ho0) hb); replace HO_16 := Aside0.mk (Kd.R_elder' (xR HO_16.out) (Kd.R_base ho0) hb); replace HB := Aside0.mk (below_step (xB HB.out) hb); (try clear hb); (try clear hb2); (try clear hk); (try clear hi); (try clear ho0); obtain ⟨Ao127, co127, eo127⟩ := Kd.R_slice HO457.out; subst eo127) | (go_at_call 21; (with_reducible refine (laws_iSame.calls k3 _ _ t454 _ _ t396 true _ ?side1 ?side2 ?side3 ?side4 A123.out).mono ?_); (case side1 => exact xC ((Kd.R_reads' HO457.out).2.2)); (case side2 => exact (Kd.R_reads' HO457.out).2.1); (case side3 => exact xC ((Kd.R_reads' HO_8.out).2.2)); (case side4 => exact (Kd.R_reads' HO_8.out).2.1); rintro e w' ⟨rfl, ⟨nd, rfl⟩⟩; (try exact xD))); try go_wp2_with (first | (go_at_call 24; (with_reducible refine (impl_LeastRatio.calls k3 t392 t393 t451 t452 true _ A119.out).mono ?_); rintro e w125 ⟨rfl, hb⟩; replace HO_5 := Aside0.mk (Kd.R_below (xR HO_5.out) hb); replace HO_8 := Aside0.mk (Kd.R_below (xR HO_8.out) hb); replace HO_12 := Aside0.mk (Kd.R_below (xR HO_12.out) hb); replace HO_16 := Aside0.mk (Kd.R_below (xR HO_16.out) hb); replace HB := Aside0.mk (below_step (xB HB.out) hb); (try clear hb); (try clear hb2); (try clear hk); (try clear hi)) | (go_at_call 15; (with_reducible refine (impl_HoldSamples.calls k3 _ _ t391 t451 t452 t454 true _ ?side1 ?side2 A120.out).mono ?_); (case side1 => exact xC ((Kd.R_reads' HO_5.out).2.2)); (case side2 => exact (Kd.R_reads' HO_5.out).2.1); rintro e w126 ⟨v456, rfl, ho0, hb⟩; have HO457 := Aside0.mk (Kd.R_lower (Kd.R_new' (Kd.R_new' (Kd.R_new' (Kd.R_new' ho0 (Kd.R_lt (xR HO_5.out))) (Kd.R_lt (xR HO_8.out))) (Kd.R_lt (xR HO_12.out))) (Kd.R_lt (xR HO_16.out))) (below_size (xB HB.out))); replace HO_5 := Aside0.mk (Kd.R_elder' (xR HO_5.out) (Kd.R_base ho0) hb); replace HO_8 := Aside0.mk (Kd.R_elder' (xR HO_8.out) (Kd.R_base ho0) hb); replace HO_12 := Aside0.mk (Kd.R_elder' (xR HO_12.out) (Kd.R_base ho0) hb); replace HO_16 := Aside0.mk (Kd.R_elder' (xR HO_16.out) (Kd.R_base ho0) hb); replace HB := Aside0.mk (below_step (xB HB.out) hb); (try clear hb); (try clear hb2); (try clear hk); (try clear hi); (try clear ho0); obtain ⟨Ao127, co127, eo127⟩ := Kd.R_slice HO457.out; subst eo127) | (go_at_call 21; (with_reducible refine (laws_iSame.calls k3 _ _ t454 _ _ t396 true _ ?side1 ?side2 ?side3 ?side4 A123.out).mono ?_); (case side1 => exact xC ((Kd.R_reads' HO457.out).2.2)); (case side2 => exact (Kd.R_reads' HO457.out).2.1); (case side3 => exact xC ((Kd.R_reads' HO_8.out).2.2)); (case side4 => exact (Kd.R_reads' HO_8.out).2.1); rintro e w' ⟨rfl, ⟨nd, rfl⟩⟩; (try exact xD))))
          (try any_goals exact (xU (by assumption)).elim)
          go_meet
          case rel => exact ⟨_, H', ⟨by have := HJ11.out; have := HJ47.out; have := HK3.out; first | omega | exact Nat.le_refl _⟩, ⟨xB HB.out⟩⟩
        rw [if_pos c60] at H
        have c60b0 : decide (x194_3 < (t396.length : Int)) = true := decide_eq_true c60
        clear c60
        replace H := Option.bind_eq_some_iff.mp H
        obtain ⟨⟨t425, t426, t427⟩, A610, H⟩ := H
        (try dsimp only at H)
        have A61 := Aside0.mk A610
        clear A610
        have HC62 := Aside0.mk H
        clear H
        go_upto_region 20 with (first | (go_at_call 23; (with_reducible refine (impl_SourceOf.calls x194_3 t392 t393 t425 t426 t427 _ A61.out).mono ?_); rintro e w' ⟨rfl, ⟨nd, rfl⟩⟩; (try exact xD)))
        repeat (go_quiet (first | (go_at_call 23; (with_reducible refine (impl_SourceOf.calls x194_3 t392 t393 t425 t426 t427 _ A61.out).mono ?_); rintro e w' ⟨rfl, ⟨nd, rfl⟩⟩; (try exact xD))); go_upto_region 20 with (first | (go_at_call 23; (with_reducible refine (impl_SourceOf.calls x194_3 t392 t393 t425 t426 t427 _ A61.out).mono ?_); rintro e w' ⟨rfl, ⟨nd, rfl⟩⟩; (try exact xD))))
        (try any_goals exact (xU (by assumption)).elim)
        (try simp only [Act.put, List.setIfInBounds_toArray, List.set_cons_zero, List.set_cons_succ])
        go_cut [249] (fun v249 wc => ∃ (kq : Nat) (x249_61 : Bool), v249 = .bool x249_61 ∧ Aside0 (laws_FnRatesChanged.j3 kq l1 t391 t392 t393 t396 t404 t412 t413 x194_3 t425 t426 (t396.length : Int) x194_3 x249_61 = some r) ∧ Aside0 (kq ≤ k3) ∧ Aside0 (Kd.R (Kd.int .i64) 3 wc w.heap.size (fun k_ => some k_ ≠ ((.slice Ao59 t396.length co59) : Value).ownBlock ∧ some k_ ≠ (v406 : Value).ownBlock ∧ some k_ ≠ (v414 : Value).ownBlock) (.slice Ao14 t391.length co14) t391) ∧ Aside0 (Kd.R (Kd.int .i64) 3 wc w.heap.size (fun k_ => some k_ ≠ ((.slice Ao14 t391.length co14) : Value).ownBlock ∧ some k_ ≠ (v406 : Value).ownBlock ∧ some k_ ≠ (v414 : Value).ownBlock) (.slice Ao59 t396.length co59) t396) ∧ Aside0 (Kd.R (Kd.int .i64) 3 wc w.heap.size (fun k_ => some k_ ≠ ((.slice Ao14 t391.length co14) : Value).ownBlock ∧ some k_ ≠ ((.slice Ao59 t396.length co59) : Value).ownBlock ∧ some k_ ≠ (v414 : Value).ownBlock) v406 t404) ∧ Aside0 (Kd.R (Kd.int .i64) 3 wc w.heap.size (fun k_ => some k_ ≠ ((.slice Ao14 t391.length co14) : Value).ownBlock ∧ some k_ ≠ ((.slice Ao59 t396.length co59) : Value).ownBlock ∧ some k_ ≠ (v406 : Value).ownBlock) v414 t412) ∧ Aside0 (Below w.heap.size w wc))
        case first => as_aux_lemma =>
         have H := HC62.out
         clear HC62
         by_cases c63 : t427 = true
         rotate_left
         ·replace c63 := Bool.eq_false_iff.mpr c63; subst c63; exact absurd H (by have hr_ := HRT.out; cases k3 <;> simp [laws_FnRatesChanged.j3, hr_])
         subst c63
         rw [if_pos rfl] at H
         by_cases c64 : t425 ≥ (t391.length : Int)
         ·rw [if_pos c64] at H; exact absurd H (by have hr_ := HRT.out; cases k3 <;> simp [laws_FnRatesChanged.j3, hr_])
         rw [if_neg c64] at H
         have c64b0 : decide ((t391.length : Int) ≤ t425) = false := decide_eq_false c64
         clear c64
         (first | rw [c64b0] | (simp only [i64_w, i32_w]; rw [c64b0]) | skip)
         by_cases c65 : (wrap64 ((wrap64 (t425 * t392)) + t426)) = (wrap64 (x194_3 * t393))
         rotate_left
         ·rw [if_neg c65] at H; exact absurd H (by have hr_ := HRT.out; cases k3 <;> simp [laws_FnRatesChanged.j3, hr_])
         rw [if_pos c65] at H
         have c65b0 : ((wrap64 ((wrap64 (t425 * t392)) + t426)) == (wrap64 (x194_3 * t393))) = true := beq_iff_eq.mpr c65
         have c65b1 : ((wrap64 ((wrap64 (t425 * t392)) + t426)) != (wrap64 (x194_3 * t393))) = false := bne_eq_false_iff_eq.mpr c65
         clear c65
         by_cases c66 : 0 ≤ x194_3
         rotate_left
         ·rw [if_neg c66] at H
          exact absurd H (by simp)
         rw [if_pos c66] at H
         have c66b0 : decide (0 ≤ x194_3) = true := decide_eq_true c66
         clear c66
         by_cases c67 : x194_3 < (t396.length : Int)
         rotate_left
         ·rw [if_neg c67] at H
          exact absurd H (by simp)
         rw [if_pos c67] at H
         have c67b0 : decide (x194_3 < (t396.length : Int)) = true := decide_eq_true c67
         clear c67
         by_cases c68 : 0 ≤ t425
         rotate_left
         ·rw [if_neg c68] at H
          exact absurd H (by simp)
         rw [if_pos c68] at H
         have c68b0 : decide (0 ≤ t425) = true := decide_eq_true c68
         clear c68
         by_cases c69 : t425 < (t391.length : Int)
         rotate_left
         ·rw [if_neg c69] at H
          exact absurd H (by simp)
         rw [if_pos c69] at H
         have c69b0 : decide (t425 < (t391.length : Int)) = true := decide_eq_true c69
         clear c69
         by_cases c70 : (rd t396 x194_3) = (rd t391 t425)
         rotate_left
         ·rw [if_neg c70] at H; exact absurd H (by have hr_ := HRT.out; cases k3 <;> simp [laws_FnRatesChanged.j3, hr_])
         rw [if_pos c70] at H
         have c70b0 : ((rd t396 x194_3) == (rd t391 t425)) = true := beq_iff_eq.mpr c70
         have c70b1 : ((rd t396 x194_3) != (rd t391 t425)) = false := bne_eq_false_iff_eq.mpr c70
         clear c70
         by_cases c71 : t426 = 0
         rotate_left
         ·as_aux_lemma =>
           rw [if_neg c71] at H
           have c71b0 : (t426 == 0) = false := beq_eq_false_iff_ne.mpr c71
           have c71b1 : (t426 != 0) = true := bne_iff_ne.mpr c71
           have H' := Aside0.mk H
           clear H
           have p428 : 0 ≤ (x194_3 : Int) := of_decide_eq_true (by first | (with_reducible assumption) | assumption)
           have q428 : x194_3 < (t396.length : Int) := of_decide_eq_true (by first | (with_reducible assumption) | assumption)
           obtain ⟨ad428, e428, hx428_0⟩ := Kd.at_int (Kd.R_reads' HO_8.out).2.2 x194_3 p428 q428
           cases e428
           replace p428 := eq_true p428
           replace q428 := eq_true q428
           have p429 : 0 ≤ (t425 : Int) := of_decide_eq_true (by first | (with_reducible assumption) | assumption)
           have q429 : t425 < (t391.length : Int) := of_decide_eq_true (by first | (with_reducible assumption) | assumption)
           obtain ⟨ad429, e429, hx429_0⟩ := Kd.at_int (Kd.R_reads' HO_5.out).2.2 t425 p429 q429
           cases e429
           replace p429 := eq_true p429
           replace q429 := eq_true q429
           go_wp2
           (try any_goals exact (xU (by assumption)).elim)
           repeat (go_quiet (fail); try go_wp2)
           (try any_goals exact (xU (by assumption)).elim)
           go_meet
           case rel => exact ⟨_, (false), (by first | rfl | (simp; done) | (simp [*]; done)), H', ⟨by have := HJ11.out; have := HJ47.out; have := HK3.out; first | omega | exact Nat.le_refl _⟩, ⟨xR HO_5.out⟩, ⟨xR HO_8.out⟩, ⟨xR HO_12.out⟩, ⟨xR HO_16.out⟩, ⟨xB HB.out⟩⟩
         as_aux_lemma =>
          rw [if_pos c71] at H
          have c71b0 : (t426 == 0) = true := beq_iff_eq.mpr c71
          have c71b1 : (t426 != 0) = false := bne_eq_false_iff_eq.mpr c71
          clear c71
          by_cases c72 : x194_3 < (t404.length : Int)
          rotate_left
          ·rw [if_neg c72] at H
           exact absurd H (by simp)
          rw [if_pos c72] at H
          have c72b0 : decide (x194_3 < (t404.length : Int)) = true := decide_eq_true c72
          clear c72
          have H' := Aside0.mk H
          clear H
          have p428 : 0 ≤ (x194_3 : Int) := of_decide_eq_true (by first | (with_reducible assumption) | assumption)
          have q428 : x194_3 < (t396.length : Int) := of_decide_eq_true (by first | (with_reducible assumption) | assumption)
          obtain ⟨ad428, e428, hx428_0⟩ := Kd.at_int (Kd.R_reads' HO_8.out).2.2 x194_3 p428 q428
          cases e428
          replace p428 := eq_true p428
          replace q428 := eq_true q428
          have p429 : 0 ≤ (t425 : Int) := of_decide_eq_true (by first | (with_reducible assumption) | assumption)
          have q429 : t425 < (t391.length : Int) := of_decide_eq_true (by first | (with_reducible assumption) | assumption)
          obtain ⟨ad429, e429, hx429_0⟩ := Kd.at_int (Kd.R_reads' HO_5.out).2.2 t425 p429 q429
          cases e429
          replace p429 := eq_true p429
          replace q429 := eq_true q429
          obtain ⟨Ao73, co73, eo73⟩ := Kd.R_slice HO_12.out
          subst eo73
          have p430 : 0 ≤ (x194_3 : Int) := of_decide_eq_true (by first | (with_reducible assumption) | assumption)
          have q430 : x194_3 < (t404.length : Int) := of_decide_eq_true (by first | (with_reducible assumption) | assumption)
          obtain ⟨ad430, e430, hx430_0⟩ := Kd.at_int (Kd.R_reads' HO_12.out).2.2 x194_3 p430 q430
          cases e430
          replace p430 := eq_true p430
          replace q430 := eq_true q430
          have p431 : 0 ≤ (t425 : Int) := of_decide_eq_true (by first | (with_reducible assumption) | assumption)
          have q431 : t425 < (t391.length : Int) := of_decide_eq_true (by first | (with_reducible assumption) | assumption)
          obtain ⟨ad431, e431, hx431_0⟩ := Kd.at_int (Kd.R_reads' HO_5.out).2.2 t425 p431 q431
          obtain rfl : ad429 = ad431 := (by injection e431)
          replace p431 := eq_true p431
          replace q431 := eq_true q431
          go_wp2
          (try any_goals exact (xU (by assumption)).elim)
          repeat (go_quiet (fail); try go_wp2)
          (try any_goals exact (xU (by assumption)).elim)
          go_meet
          case rel => exact ⟨_, (((rd t404 x194_3) != (rd t391 t425))), (by first | rfl | (simp; done) | (simp [*]; done)), H', ⟨by have := HJ11.out; have := HJ47.out; have := HK3.out; first | omega | exact Nat.le_refl _⟩, ⟨xR HO_5.out⟩, ⟨xR HO_8.out⟩, ⟨xR HO_12.out⟩, ⟨xR HO_16.out⟩, ⟨xB HB.out⟩⟩
        case rest => as_aux_lemma =>
         clear HC62
         try clear c60b0
         obtain ⟨kq, x249_61, rfl, HA, HJ61, HO_5, HO_8, HO_12, HO_16, HB⟩ := hcut
         cases kq with
         | zero => exact absurd HA.out (by simp [laws_FnRatesChanged.j3])
         | succ kj61 =>
          have H := HA.out
          clear HA
          simp only [laws_FnRatesChanged.j3] at H
          by_cases c74 : x249_61 = true
          ·as_aux_lemma =>
            subst c74
            rw [if_pos rfl] at H
            exact absurd ((Option.some.inj H).trans HRT.out) (by decide)
          replace c74 := Bool.eq_false_iff.mpr c74
          subst c74
          rw [if_neg (show ¬ (false = true) by decide)] at H
          have HC75 := Aside0.mk H
          clear H
          go_upto_if 255 with (fail)
          repeat (go_quiet (fail); go_upto_if 255 with (fail))
          (try any_goals exact (xU (by assumption)).elim)
          go_cut [26] (fun v26 wc => ∃ (kq : Nat) (x26_74 : Int), v26 = .int .i64 x26_74 ∧ Aside0 (laws_FnRatesChanged.j4 kq l1 t391 t392 t393 t396 t404 t412 t413 x194_3 t425 t426 x26_74 (t396.length : Int) x194_3 = some r) ∧ Aside0 (kq ≤ kj61) ∧ Aside0 (Kd.R (Kd.int .i64) 3 wc w.heap.size (fun k_ => some k_ ≠ ((.slice Ao59 t396.length co59) : Value).ownBlock ∧ some k_ ≠ (v406 : Value).ownBlock ∧ some k_ ≠ (v414 : Value).ownBlock) (.slice Ao14 t391.length co14) t391) ∧ Aside0 (Kd.R (Kd.int .i64) 3 wc w.heap.size (fun k_ => some k_ ≠ ((.slice Ao14 t391.length co14) : Value).ownBlock ∧ some k_ ≠ (v406 : Value).ownBlock ∧ some k_ ≠ (v414 : Value).ownBlock) (.slice Ao59 t396.length co59) t396) ∧ Aside0 (Kd.R (Kd.int .i64) 3 wc w.heap.size (fun k_ => some k_ ≠ ((.slice Ao14 t391.length co14) : Value).ownBlock ∧ some k_ ≠ ((.slice Ao59 t396.length co59) : Value).ownBlock ∧ some k_ ≠ (v414 : Value).ownBlock) v406 t404) ∧ Aside0 (Kd.R (Kd.int .i64) 3 wc w.heap.size (fun k_ => some k_ ≠ ((.slice Ao14 t391.length co14) : Value).ownBlock ∧ some k_ ≠ ((.slice Ao59 t396.length co59) : Value).ownBlock ∧ some k_ ≠ (v406 : Value).ownBlock) v414 t412) ∧ Aside0 (Below w.heap.size w wc))
          case first => as_aux_lemma =>
           have H := HC75.out
           clear HC75
           by_cases c76 : (wrap64 (t425 + 1)) < (t391.length : Int)
           rotate_left
           ·as_aux_lemma =>
             rw [if_neg c76] at H
             have c76b0 : decide ((wrap64 (t425 + 1)) < (t391.length : Int)) = false := decide_eq_false c76
             clear c76
             (first | rw [c76b0] | (simp only [i64_w, i32_w]; rw [c76b0]) | skip)
             have H' := Aside0.mk H
             clear H
             go_wp2
             (try any_goals exact (xU (by assumption)).elim)
             repeat (go_quiet (fail); try go_wp2)
             (try any_goals exact (xU (by assumption)).elim)
             go_meet
             case rel => exact ⟨_, (t425), (by first | rfl | (simp; done) | (simp [*]; done)), H', ⟨by have := HJ11.out; have := HJ47.out; have := HK3.out; have := HJ61.out; first | omega | exact Nat.le_refl _⟩, ⟨xR HO_5.out⟩, ⟨xR HO_8.out⟩, ⟨xR HO_12.out⟩, ⟨xR HO_16.out⟩, ⟨xB HB.out⟩⟩
           as_aux_lemma =>
            rw [if_pos c76] at H
            have c76b0 : decide ((wrap64 (t425 + 1)) < (t391.length : Int)) = true := decide_eq_true c76
            clear c76
            (first | rw [c76b0] | (simp only [i64_w, i32_w]; rw [c76b0]) | skip)
            have H' := Aside0.mk H
            clear H
            go_wp2
            (try any_goals exact (xU (by assumption)).elim)
            repeat (go_quiet (fail); try go_wp2)
            (try any_goals exact (xU (by assumption)).elim)
            go_meet
            case rel => exact ⟨_, (wrap64 (t425 + 1)), (by first | rfl | (simp; done) | (simp [*]; done)), H', ⟨by have := HJ11.out; have := HJ47.out; have := HK3.out; have := HJ61.out; first | omega | exact Nat.le_refl _⟩, ⟨xR HO_5.out⟩, ⟨xR HO_8.out⟩, ⟨xR HO_12.out⟩, ⟨xR HO_16.out⟩, ⟨xB HB.out⟩⟩
          case rest => as_aux_lemma =>
           clear HC75
           try clear c74
           obtain ⟨kq, x26_74, rfl, HA, HJ74, HO_5, HO_8, HO_12, HO_16, HB⟩ := hcut
           cases kq with
           | zero => exact absurd HA.out (by simp [laws_FnRatesChanged.j4])
           | succ kj74 =>
            have H := HA.out
            clear HA
            simp only [laws_FnRatesChanged.j4] at H
            have HC77 := Aside0.mk H
            clear H
            go_upto_region 25 with (fail)
            repeat (go_quiet (fail); go_upto_region 25 with (fail))
            (try any_goals exact (xU (by assumption)).elim)
            go_cut [277] (fun v277 wc => ∃ (kq : Nat) (x277_76 : Bool), v277 = .bool x277_76 ∧ Aside0 (laws_FnRatesChanged.j5 kq l1 t391 t392 t393 t396 t404 t412 t413 x194_3 t425 t426 x26_74 (t396.length : Int) x194_3 x277_76 = some r) ∧ Aside0 (kq ≤ kj74) ∧ Aside0 (Kd.R (Kd.int .i64) 3 wc w.heap.size (fun k_ => some k_ ≠ ((.slice Ao59 t396.length co59) : Value).ownBlock ∧ some k_ ≠ (v406 : Value).ownBlock ∧ some k_ ≠ (v414 : Value).ownBlock) (.slice Ao14 t391.length co14) t391) ∧ Aside0 (Kd.R (Kd.int .i64) 3 wc w.heap.size (fun k_ => some k_ ≠ ((.slice Ao14 t391.length co14) : Value).ownBlock ∧ some k_ ≠ (v406 : Value).ownBlock ∧ some k_ ≠ (v414 : Value).ownBlock) (.slice Ao59 t396.length co59) t396) ∧ Aside0 (Kd.R (Kd.int .i64) 3 wc w.heap.size (fun k_ => some k_ ≠ ((.slice Ao14 t391.length co14) : Value).ownBlock ∧ some k_ ≠ ((.slice Ao59 t396.length co59) : Value).ownBlock ∧ some k_ ≠ (v414 : Value).ownBlock) v406 t404) ∧ Aside0 (Kd.R (Kd.int .i64) 3 wc w.heap.size (fun k_ => some k_ ≠ ((.slice Ao14 t391.length co14) : Value).ownBlock ∧ some k_ ≠ ((.slice Ao59 t396.length co59) : Value).ownBlock ∧ some k_ ≠ (v406 : Value).ownBlock) v414 t412) ∧ Aside0 (Below w.heap.size w wc))
            case first => as_aux_lemma =>
             have H := HC77.out
             clear HC77
             by_cases c78 : 0 ≤ x194_3
             rotate_left
             ·rw [if_neg c78] at H
              exact absurd H (by simp)
             rw [if_pos c78] at H
             have c78b0 : decide (0 ≤ x194_3) = true := decide_eq_true c78
             clear c78
             (first | rw [c78b0] | (simp only [i64_w, i32_w]; rw [c78b0]) | skip)
             by_cases c79 : x194_3 < (t404.length : Int)
             rotate_left
             ·rw [if_neg c79] at H
              exact absurd H (by simp)
             rw [if_pos c79] at H
             have c79b0 : decide (x194_3 < (t404.length : Int)) = true := decide_eq_true c79
             clear c79
             by_cases c80 : 0 ≤ t425
             rotate_left
             ·rw [if_neg c80] at H
              exact absurd H (by simp)
             rw [if_pos c80] at H
             have c80b0 : decide (0 ≤ t425) = true := decide_eq_true c80
             clear c80
             by_cases c81 : t425 < (t391.length : Int)
             rotate_left
             ·rw [if_neg c81] at H
              exact absurd H (by simp)
             rw [if_pos c81] at H
             have c81b0 : decide (t425 < (t391.length : Int)) = true := decide_eq_true c81
             clear c81
             by_cases c82 : (rd t404 x194_3) = (rd t391 t425)
             ·as_aux_lemma =>
               rw [if_pos c82] at H
               have c82b0 : ((rd t404 x194_3) == (rd t391 t425)) = true := beq_iff_eq.mpr c82
               have c82b1 : ((rd t404 x194_3) != (rd t391 t425)) = false := bne_eq_false_iff_eq.mpr c82
               clear c82
               have H' := Aside0.mk H
               clear H
               obtain ⟨Ao83, co83, eo83⟩ := Kd.R_slice HO_12.out
               subst eo83
               have p432 : 0 ≤ (x194_3 : Int) := of_decide_eq_true (by first | (with_reducible assumption) | assumption)
               have q432 : x194_3 < (t404.length : Int) := of_decide_eq_true (by first | (with_reducible assumption) | assumption)
               obtain ⟨ad432, e432, hx432_0⟩ := Kd.at_int (Kd.R_reads' HO_12.out).2.2 x194_3 p432 q432
               cases e432
               replace p432 := eq_true p432
               replace q432 := eq_true q432
               have p433 : 0 ≤ (t425 : Int) := of_decide_eq_true (by first | (with_reducible assumption) | assumption)
               have q433 : t425 < (t391.length : Int) := of_decide_eq_true (by first | (with_reducible assumption) | assumption)
               obtain ⟨ad433, e433, hx433_0⟩ := Kd.at_int (Kd.R_reads' HO_5.out).2.2 t425 p433 q433
               cases e433
               replace p433 := eq_true p433
               replace q433 := eq_true q433
               go_wp2
               (try any_goals exact (xU (by assumption)).elim)
               repeat (go_quiet (fail); try go_wp2)
               (try any_goals exact (xU (by assumption)).elim)
               go_meet
               case rel => exact ⟨_, (false), (by first | rfl | (simp; done) | (simp [*]; done)), H', ⟨by have := HJ11.out; have := HJ47.out; have := HK3.out; have := HJ61.out; have := HJ74.out; first | omega | exact Nat.le_refl _⟩, ⟨xR HO_5.out⟩, ⟨xR HO_8.out⟩, ⟨xR HO_12.out⟩, ⟨xR HO_16.out⟩, ⟨xB HB.out⟩⟩
             as_aux_lemma =>
              rw [if_neg c82] at H
              have c82b0 : ((rd t404 x194_3) == (rd t391 t425)) = false := beq_eq_false_iff_ne.mpr c82
              have c82b1 : ((rd t404 x194_3) != (rd t391 t425)) = true := bne_iff_ne.mpr c82
              by_cases c84 : 0 ≤ x26_74
              rotate_left
              ·rw [if_neg c84] at H
               exact absurd H (by simp)
              rw [if_pos c84] at H
              have c84b0 : decide (0 ≤ x26_74) = true := decide_eq_true c84
              clear c84
              by_cases c85 : x26_74 < (t391.length : Int)
              rotate_left
              ·rw [if_neg c85] at H
               exact absurd H (by simp)
              rw [if_pos c85] at H
              have c85b0 : decide (x26_74 < (t391.length : Int)) = true := decide_eq_true c85
              clear c85
              have H' := Aside0.mk H
              clear H
              obtain ⟨Ao86, co86, eo86⟩ := Kd.R_slice HO_12.out
              subst eo86
              have p432 : 0 ≤ (x194_3 : Int) := of_decide_eq_true (by first | (with_reducible assumption) | assumption)
              have q432 : x194_3 < (t404.length : Int) := of_decide_eq_true (by first | (with_reducible assumption) | assumption)
              obtain ⟨ad432, e432, hx432_0⟩ := Kd.at_int (Kd.R_reads' HO_12.out).2.2 x194_3 p432 q432
              cases e432
              replace p432 := eq_true p432
              replace q432 := eq_true q432
              have p433 : 0 ≤ (t425 : Int) := of_decide_eq_true (by first | (with_reducible assumption) | assumption)
              have q433 : t425 < (t391.length : Int) := of_decide_eq_true (by first | (with_reducible assumption) | assumption)
              obtain ⟨ad433, e433, hx433_0⟩ := Kd.at_int (Kd.R_reads' HO_5.out).2.2 t425 p433 q433
              cases e433
              replace p433 := eq_true p433
              replace q433 := eq_true q433
              have p434 : 0 ≤ (x194_3 : Int) := of_decide_eq_true (by first | (with_reducible assumption) | assumption)
              have q434 : x194_3 < (t404.length : Int) := of_decide_eq_true (by first | (with_reducible assumption) | assumption)
              obtain ⟨ad434, e434, hx434_0⟩ := Kd.at_int (Kd.R_reads' HO_12.out).2.2 x194_3 p434 q434
              obtain rfl : ad432 = ad434 := (by injection e434)
              replace p434 := eq_true p434
              replace q434 := eq_true q434
              have p435 : 0 ≤ (x26_74 : Int) := of_decide_eq_true (by first | (with_reducible assumption) | assumption)
              have q435 : x26_74 < (t391.length : Int) := of_decide_eq_true (by first | (with_reducible assumption) | assumption)
              obtain ⟨ad435, e435, hx435_0⟩ := Kd.at_int (Kd.R_reads' HO_5.out).2.2 x26_74 p435 q435
              obtain rfl : ad433 = ad435 := (by injection e435)
              replace p435 := eq_true p435
              replace q435 := eq_true q435
              go_wp2
              (try any_goals exact (xU (by assumption)).elim)
              repeat (go_quiet (fail); try go_wp2)
              (try any_goals exact (xU (by assumption)).elim)
              go_meet
              case rel => exact ⟨_, (((rd t404 x194_3) != (rd t391 x26_74))), (by first | rfl | (simp; done) | (simp [*]; done)), H', ⟨by have := HJ11.out; have := HJ47.out; have := HK3.out; have := HJ61.out; have := HJ74.out; first | omega | exact Nat.le_refl _⟩, ⟨xR HO_5.out⟩, ⟨xR HO_8.out⟩, ⟨xR HO_12.out⟩, ⟨xR HO_16.out⟩, ⟨xB HB.out⟩⟩
            case rest => as_aux_lemma =>
             clear HC77
             obtain ⟨kq, x277_76, rfl, HA, HJ76, HO_5, HO_8, HO_12, HO_16, HB⟩ := hcut
             cases kq with
             | zero => exact absurd HA.out (by simp [laws_FnRatesChanged.j5])
             | succ kj76 =>
              have H := HA.out
              clear HA
              simp only [laws_FnRatesChanged.j5] at H
              by_cases c87 : x277_76 = true
              ·as_aux_lemma =>
                subst c87
                rw [if_pos rfl] at H
                exact absurd ((Option.some.inj H).trans HRT.out) (by decide)
              replace c87 := Bool.eq_false_iff.mpr c87
              subst c87
              rw [if_neg (show ¬ (false = true) by decide)] at H
              by_cases c88 : t413 = true
              rotate_left
              ·as_aux_lemma =>
                replace c88 := Bool.eq_false_iff.mpr c88
                subst c88
                rw [if_neg (show ¬ (false = true) by decide)] at H
                have H' := Aside0.mk H
                clear H
                go_wp2
                (try any_goals exact (xU (by assumption)).elim)
                repeat (go_quiet (fail); try go_wp2)
                (try any_goals exact (xU (by assumption)).elim)
                go_roundg kj76
                case measure => have := HJ11.out; have := HJ47.out; have := HK3.out; have := HJ61.out; have := HJ74.out; have := HJ76.out; omega
                case rel => exact ⟨(wrap64 (x194_3 + 1)), (by first | rfl | (simp; done) | (simp [*]; done)), H', ⟨by have := HJ11.out; have := HJ47.out; have := HK3.out; have := HJ61.out; have := HJ74.out; have := HJ76.out; omega⟩, ⟨xR HO_5.out⟩, ⟨xR HO_8.out⟩, ⟨xR HO_12.out⟩, ⟨xR HO_16.out⟩, ⟨xB HB.out⟩⟩
              subst c88
              rw [if_pos rfl] at H
              by_cases c89 : 0 ≤ t425
              rotate_left
              ·rw [if_neg c89] at H
               exact absurd H (by simp)
              rw [if_pos c89] at H
              have c89b0 : decide (0 ≤ t425) = true := decide_eq_true c89
              clear c89
              by_cases c90 : t425 < (t391.length : Int)
              rotate_left
              ·rw [if_neg c90] at H
               exact absurd H (by simp)
              rw [if_pos c90] at H
              have c90b0 : decide (t425 < (t391.length : Int)) = true := decide_eq_true c90
              clear c90
              by_cases c91 : 0 ≤ x26_74
              rotate_left
              ·rw [if_neg c91] at H
               exact absurd H (by simp)
              rw [if_pos c91] at H
              have c91b0 : decide (0 ≤ x26_74) = true := decide_eq_true c91
              clear c91
              by_cases c92 : x26_74 < (t391.length : Int)
              rotate_left
              ·rw [if_neg c92] at H
               exact absurd H (by simp)
              rw [if_pos c92] at H
              have c92b0 : decide (x26_74 < (t391.length : Int)) = true := decide_eq_true c92
              clear c92
              by_cases c93 : t426 = 0
              rotate_left
              ·rw [if_neg c93] at H
               have c93b0 : (t426 == 0) = false := beq_eq_false_iff_ne.mpr c93
               have c93b1 : (t426 != 0) = true := bne_iff_ne.mpr c93
               by_cases c107 : 0 ≤ x194_3
               rotate_left
               ·rw [if_neg c107] at H
                exact absurd H (by simp)
               rw [if_pos c107] at H
               have c107b0 : decide (0 ≤ x194_3) = true := decide_eq_true c107
               clear c107
               by_cases c108 : x194_3 < (t412.length : Int)
               rotate_left
               ·rw [if_neg c108] at H
                exact absurd H (by simp)
               rw [if_pos c108] at H
               have c108b0 : decide (x194_3 < (t412.length : Int)) = true := decide_eq_true c108
               clear c108
               by_cases c109 : (rd t412 x194_3) < (wrap64 (t392 * (rd t391 t425)))
               rotate_left
               ·rw [if_neg c109] at H
                have c109b0 : decide ((rd t412 x194_3) < (wrap64 (t392 * (rd t391 t425)))) = false := decide_eq_false c109
                clear c109
                by_cases c115 : (rd t412 x194_3) > (wrap64 (t392 * (rd t391 t425)))
                rotate_left
                ·as_aux_lemma =>
                  rw [if_neg c115] at H
                  have c115b0 : decide ((wrap64 (t392 * (rd t391 t425))) < (rd t412 x194_3)) = false := decide_eq_false c115
                  clear c115
                  have H' := Aside0.mk H
                  clear H
                  have p436 : 0 ≤ (t425 : Int) := of_decide_eq_true (by first | (with_reducible assumption) | assumption)
                  have q436 : t425 < (t391.length : Int) := of_decide_eq_true (by first | (with_reducible assumption) | assumption)
                  obtain ⟨ad436, e436, hx436_0⟩ := Kd.at_int (Kd.R_reads' HO_5.out).2.2 t425 p436 q436
                  cases e436
                  replace p436 := eq_true p436
                  replace q436 := eq_true q436
                  have p437 : 0 ≤ (x26_74 : Int) := of_decide_eq_true (by first | (with_reducible assumption) | assumption)
                  have q437 : x26_74 < (t391.length : Int) := of_decide_eq_true (by first | (with_reducible assumption) | assumption)
                  obtain ⟨ad437, e437, hx437_0⟩ := Kd.at_int (Kd.R_reads' HO_5.out).2.2 x26_74 p437 q437
                  obtain rfl : ad436 = ad437 := (by injection e437)
                  replace p437 := eq_true p437
                  replace q437 := eq_true q437
                  obtain ⟨Ao118, co118, eo118⟩ := Kd.R_slice HO_16.out
                  subst eo118
                  have p445 : 0 ≤ (x194_3 : Int) := of_decide_eq_true (by first | (with_reducible assumption) | assumption)
                  have q445 : x194_3 < (t412.length : Int) := of_decide_eq_true (by first | (with_reducible assumption) | assumption)
                  obtain ⟨ad445, e445, hx445_0⟩ := Kd.at_int (Kd.R_reads' HO_16.out).2.2 x194_3 p445 q445
                  cases e445
                  replace p445 := eq_true p445
                  replace q445 := eq_true q445
                  have p449 : 0 ≤ (x194_3 : Int) := of_decide_eq_true (by first | (with_reducible assumption) | assumption)
                  have q449 : x194_3 < (t412.length : Int) := of_decide_eq_true (by first | (with_reducible assumption) | assumption)
                  obtain ⟨ad449, e449, hx449_0⟩ := Kd.at_int (Kd.R_reads' HO_16.out).2.2 x194_3 p449 q449
                  obtain rfl : ad445 = ad449 := (by injection e449)
                  replace p449 := eq_true p449
                  replace q449 := eq_true q449
                  go_wp2
                  (try any_goals exact (xU (by assumption)).elim)
                  repeat (go_quiet (fail); try go_wp2)
                  (try any_goals exact (xU (by assumption)).elim)
                  go_roundg kj76
                  case measure => have := HJ11.out; have := HJ47.out; have := HK3.out; have := HJ61.out; have := HJ74.out; have := HJ76.out; omega
                  case rel => exact ⟨(wrap64 (x194_3 + 1)), (by first | rfl | (simp; done) | (simp [*]; done)), H', ⟨by have := HJ11.out; have := HJ47.out; have := HK3.out; have := HJ61.out; have := HJ74.out; have := HJ76.out; omega⟩, ⟨xR HO_5.out⟩, ⟨xR HO_8.out⟩, ⟨xR HO_12.out⟩, ⟨xR HO_16.out⟩, ⟨xB HB.out⟩⟩
                as_aux_lemma =>
                 rw [if_pos c115] at H
                 have c115b0 : decide ((wrap64 (t392 * (rd t391 t425))) < (rd t412 x194_3)) = true := decide_eq_true c115
                 clear c115
                 by_cases c116 : (rd t412 x194_3) > (wrap64 (t392 * (rd t391 x26_74)))
                 ·rw [if_pos c116] at H
                  have c116b0 : decide ((wrap64 (t392 * (rd t391 x26_74))) < (rd t412 x194_3)) = true := decide_eq_true c116
                  clear c116
                  exact absurd ((Option.some.inj H).trans HRT.out) (by decide)
                 rw [if_neg c116] at H
                 have c116b0 : decide ((wrap64 (t392 * (rd t391 x26_74))) < (rd t412 x194_3)) = false := decide_eq_false c116
                 clear c116
                 have H' := Aside0.mk H
                 clear H
                 have p436 : 0 ≤ (t425 : Int) := of_decide_eq_true (by first | (with_reducible assumption) | assumption)
                 have q436 : t425 < (t391.length : Int) := of_decide_eq_true (by first | (with_reducible assumption) | assumption)
                 obtain ⟨ad436, e436, hx436_0⟩ := Kd.at_int (Kd.R_reads' HO_5.out).2.2 t425 p436 q436
                 cases e436
                 replace p436 := eq_true p436
                 replace q436 := eq_true q436
                 have p437 : 0 ≤ (x26_74 : Int) := of_decide_eq_true (by first | (with_reducible assumption) | assumption)
                 have q437 : x26_74 < (t391.length : Int) := of_decide_eq_true (by first | (with_reducible assumption) | assumption)
                 obtain ⟨ad437, e437, hx437_0⟩ := Kd.at_int (Kd.R_reads' HO_5.out).2.2 x26_74 p437 q437
                 obtain rfl : ad436 = ad437 := (by injection e437)
                 replace p437 := eq_true p437
                 replace q437 := eq_true q437
                 obtain ⟨Ao117, co117, eo117⟩ := Kd.R_slice HO_16.out
                 subst eo117
                 have p445 : 0 ≤ (x194_3 : Int) := of_decide_eq_true (by first | (with_reducible assumption) | assumption)
                 have q445 : x194_3 < (t412.length : Int) := of_decide_eq_true (by first | (with_reducible assumption) | assumption)
                 obtain ⟨ad445, e445, hx445_0⟩ := Kd.at_int (Kd.R_reads' HO_16.out).2.2 x194_3 p445 q445
                 cases e445
                 replace p445 := eq_true p445
                 replace q445 := eq_true q445
                 have p449 : 0 ≤ (x194_3 : Int) := of_decide_eq_true (by first | (with_reducible assumption) | assumption)
                 have q449 : x194_3 < (t412.length : Int) := of_decide_eq_true (by first | (with_reducible assumption) | assumption)
                 obtain ⟨ad449, e449, hx449_0⟩ := Kd.at_int (Kd.R_reads' HO_16.out).2.2 x194_3 p449 q449
                 obtain rfl : ad445 = ad449 := (by injection e449)
                 replace p449 := eq_true p449
                 replace q449 := eq_true q449
                 have p450 : 0 ≤ (x194_3 : Int) := of_decide_eq_true (by first | (with_reducible assumption) | assumption)
                 have q450 : x194_3 < (t412.length : Int) := of_decide_eq_true (by first | (with_reducible assumption) | assumption)
                 obtain ⟨ad450, e450, hx450_0⟩ := Kd.at_int (Kd.R_reads' HO_16.out).2.2 x194_3 p450 q450
                 obtain rfl : ad445 = ad450 := (by injection e450)
                 replace p450 := eq_true p450
                 replace q450 := eq_true q450
                 go_wp2
                 (try any_goals exact (xU (by assumption)).elim)
                 repeat (go_quiet (fail); try go_wp2)
                 (try any_goals exact (xU (by assumption)).elim)
                 go_roundg kj76
                 case measure => have := HJ11.out; have := HJ47.out; have := HK3.out; have := HJ61.out; have := HJ74.out; have := HJ76.out; omega
                 case rel => exact ⟨(wrap64 (x194_3 + 1)), (by first | rfl | (simp; done) | (simp [*]; done)), H', ⟨by have := HJ11.out; have := HJ47.out; have := HK3.out; have := HJ61.out; have := HJ74.out; have := HJ76.out; omega⟩, ⟨xR HO_5.out⟩, ⟨xR HO_8.out⟩, ⟨xR HO_12.out⟩, ⟨xR HO_16.out⟩, ⟨xB HB.out⟩⟩
               rw [if_pos c109] at H
               have c109b0 : decide ((rd t412 x194_3) < (wrap64 (t392 * (rd t391 t425)))) = true := decide_eq_true c109
               clear c109
               by_cases c110 : (rd t412 x194_3) < (wrap64 (t392 * (rd t391 x26_74)))
               ·rw [if_pos c110] at H
                have c110b0 : decide ((rd t412 x194_3) < (wrap64 (t392 * (rd t391 x26_74)))) = true := decide_eq_true c110
                clear c110
                exact absurd ((Option.some.inj H).trans HRT.out) (by decide)
               rw [if_neg c110] at H
               have c110b0 : decide ((rd t412 x194_3) < (wrap64 (t392 * (rd t391 x26_74)))) = false := decide_eq_false c110
               clear c110
               by_cases c111 : (rd t412 x194_3) > (wrap64 (t392 * (rd t391 t425)))
               rotate_left
               ·as_aux_lemma =>
                 rw [if_neg c111] at H
                 have c111b0 : decide ((wrap64 (t392 * (rd t391 t425))) < (rd t412 x194_3)) = false := decide_eq_false c111
                 clear c111
                 have H' := Aside0.mk H
                 clear H
                 have p436 : 0 ≤ (t425 : Int) := of_decide_eq_true (by first | (with_reducible assumption) | assumption)
                 have q436 : t425 < (t391.length : Int) := of_decide_eq_true (by first | (with_reducible assumption) | assumption)
                 obtain ⟨ad436, e436, hx436_0⟩ := Kd.at_int (Kd.R_reads' HO_5.out).2.2 t425 p436 q436
                 cases e436
                 replace p436 := eq_true p436
                 replace q436 := eq_true q436
                 have p437 : 0 ≤ (x26_74 : Int) := of_decide_eq_true (by first | (with_reducible assumption) | assumption)
                 have q437 : x26_74 < (t391.length : Int) := of_decide_eq_true (by first | (with_reducible assumption) | assumption)
                 obtain ⟨ad437, e437, hx437_0⟩ := Kd.at_int (Kd.R_reads' HO_5.out).2.2 x26_74 p437 q437
                 obtain rfl : ad436 = ad437 := (by injection e437)
                 replace p437 := eq_true p437
                 replace q437 := eq_true q437
                 obtain ⟨Ao114, co114, eo114⟩ := Kd.R_slice HO_16.out
                 subst eo114
                 have p445 : 0 ≤ (x194_3 : Int) := of_decide_eq_true (by first | (with_reducible assumption) | assumption)
                 have q445 : x194_3 < (t412.length : Int) := of_decide_eq_true (by first | (with_reducible assumption) | assumption)
                 obtain ⟨ad445, e445, hx445_0⟩ := Kd.at_int (Kd.R_reads' HO_16.out).2.2 x194_3 p445 q445
                 cases e445
                 replace p445 := eq_true p445
                 replace q445 := eq_true q445
                 have p446 : 0 ≤ (x194_3 : Int) := of_decide_eq_true (by first | (with_reducible assumption) | assumption)
                 have q446 : x194_3 < (t412.length : Int) := of_decide_eq_true (by first | (with_reducible assumption) | assumption)
                 obtain ⟨ad446, e446, hx446_0⟩ := Kd.at_int (Kd.R_reads' HO_16.out).2.2 x194_3 p446 q446
                 obtain rfl : ad445 = ad446 := (by injection e446)
                 replace p446 := eq_true p446
                 replace q446 := eq_true q446
                 have p447 : 0 ≤ (x194_3 : Int) := of_decide_eq_true (by first | (with_reducible assumption) | assumption)
                 have q447 : x194_3 < (t412.length : Int) := of_decide_eq_true (by first | (with_reducible assumption) | assumption)
                 obtain ⟨ad447, e447, hx447_0⟩ := Kd.at_int (Kd.R_reads' HO_16.out).2.2 x194_3 p447 q447
                 obtain rfl : ad445 = ad447 := (by injection e447)
                 replace p447 := eq_true p447
                 replace q447 := eq_true q447
                 go_wp2
                 (try any_goals exact (xU (by assumption)).elim)
                 repeat (go_quiet (fail); try go_wp2)
                 (try any_goals exact (xU (by assumption)).elim)
                 go_roundg kj76
                 case measure => have := HJ11.out; have := HJ47.out; have := HK3.out; have := HJ61.out; have := HJ74.out; have := HJ76.out; omega
                 case rel => exact ⟨(wrap64 (x194_3 + 1)), (by first | rfl | (simp; done) | (simp [*]; done)), H', ⟨by have := HJ11.out; have := HJ47.out; have := HK3.out; have := HJ61.out; have := HJ74.out; have := HJ76.out; omega⟩, ⟨xR HO_5.out⟩, ⟨xR HO_8.out⟩, ⟨xR HO_12.out⟩, ⟨xR HO_16.out⟩, ⟨xB HB.out⟩⟩
               as_aux_lemma =>
                rw [if_pos c111] at H
                have c111b0 : decide ((wrap64 (t392 * (rd t391 t425))) < (rd t412 x194_3)) = true := decide_eq_true c111
                clear c111
                by_cases c112 : (rd t412 x194_3) > (wrap64 (t392 * (rd t391 x26_74)))
                ·rw [if_pos c112] at H
                 have c112b0 : decide ((wrap64 (t392 * (rd t391 x26_74))) < (rd t412 x194_3)) = true := decide_eq_true c112
                 clear c112
                 exact absurd ((Option.some.inj H).trans HRT.out) (by decide)
                rw [if_neg c112] at H
                have c112b0 : decide ((wrap64 (t392 * (rd t391 x26_74))) < (rd t412 x194_3)) = false := decide_eq_false c112
                clear c112
                have H' := Aside0.mk H
                clear H
                have p436 : 0 ≤ (t425 : Int) := of_decide_eq_true (by first | (with_reducible assumption) | assumption)
                have q436 : t425 < (t391.length : Int) := of_decide_eq_true (by first | (with_reducible assumption) | assumption)
                obtain ⟨ad436, e436, hx436_0⟩ := Kd.at_int (Kd.R_reads' HO_5.out).2.2 t425 p436 q436
                cases e436
                replace p436 := eq_true p436
                replace q436 := eq_true q436
                have p437 : 0 ≤ (x26_74 : Int) := of_decide_eq_true (by first | (with_reducible assumption) | assumption)
                have q437 : x26_74 < (t391.length : Int) := of_decide_eq_true (by first | (with_reducible assumption) | assumption)
                obtain ⟨ad437, e437, hx437_0⟩ := Kd.at_int (Kd.R_reads' HO_5.out).2.2 x26_74 p437 q437
                obtain rfl : ad436 = ad437 := (by injection e437)
                replace p437 := eq_true p437
                replace q437 := eq_true q437
                obtain ⟨Ao113, co113, eo113⟩ := Kd.R_slice HO_16.out
                subst eo113
                have p445 : 0 ≤ (x194_3 : Int) := of_decide_eq_true (by first | (with_reducible assumption) | assumption)
                have q445 : x194_3 < (t412.length : Int) := of_decide_eq_true (by first | (with_reducible assumption) | assumption)
                obtain ⟨ad445, e445, hx445_0⟩ := Kd.at_int (Kd.R_reads' HO_16.out).2.2 x194_3 p445 q445
                cases e445
                replace p445 := eq_true p445
                replace q445 := eq_true q445
                have p446 : 0 ≤ (x194_3 : Int) := of_decide_eq_true (by first | (with_reducible assumption) | assumption)
                have q446 : x194_3 < (t412.length : Int) := of_decide_eq_true (by first | (with_reducible assumption) | assumption)
                obtain ⟨ad446, e446, hx446_0⟩ := Kd.at_int (Kd.R_reads' HO_16.out).2.2 x194_3 p446 q446
                obtain rfl : ad445 = ad446 := (by injection e446)
                replace p446 := eq_true p446
                replace q446 := eq_true q446
                have p447 : 0 ≤ (x194_3 : Int) := of_decide_eq_true (by first | (with_reducible assumption) | assumption)
                have q447 : x194_3 < (t412.length : Int) := of_decide_eq_true (by first | (with_reducible assumption) | assumption)
                obtain ⟨ad447, e447, hx447_0⟩ := Kd.at_int (Kd.R_reads' HO_16.out).2.2 x194_3 p447 q447
                obtain rfl : ad445 = ad447 := (by injection e447)
                replace p447 := eq_true p447
                replace q447 := eq_true q447
                have p448 : 0 ≤ (x194_3 : Int) := of_decide_eq_true (by first | (with_reducible assumption) | assumption)
                have q448 : x194_3 < (t412.length : Int) := of_decide_eq_true (by first | (with_reducible assumption) | assumption)
                obtain ⟨ad448, e448, hx448_0⟩ := Kd.at_int (Kd.R_reads' HO_16.out).2.2 x194_3 p448 q448
                obtain rfl : ad445 = ad448 := (by injection e448)
                replace p448 := eq_true p448
                replace q448 := eq_true q448
                go_wp2
                (try any_goals exact (xU (by assumption)).elim)
                repeat (go_quiet (fail); try go_wp2)
                (try any_goals exact (xU (by assumption)).elim)
                go_roundg kj76
                case measure => have := HJ11.out; have := HJ47.out; have := HK3.out; have := HJ61.out; have := HJ74.out; have := HJ76.out; omega
                case rel => exact ⟨(wrap64 (x194_3 + 1)), (by first | rfl | (simp; done) | (simp [*]; done)), H', ⟨by have := HJ11.out; have := HJ47.out; have := HK3.out; have := HJ61.out; have := HJ74.out; have := HJ76.out; omega⟩, ⟨xR HO_5.out⟩, ⟨xR HO_8.out⟩, ⟨xR HO_12.out⟩, ⟨xR HO_16.out⟩, ⟨xB HB.out⟩⟩
              rw [if_pos c93] at H
              have c93b0 : (t426 == 0) = true := beq_iff_eq.mpr c93
              have c93b1 : (t426 != 0) = false := bne_eq_false_iff_eq.mpr c93
              clear c93
              by_cases c94 : 0 ≤ x194_3
              rotate_left
              ·rw [if_neg c94] at H
               exact absurd H (by simp)
              rw [if_pos c94] at H
              have c94b0 : decide (0 ≤ x194_3) = true := decide_eq_true c94
              clear c94
              by_cases c95 : x194_3 < (t412.length : Int)
              rotate_left
              ·rw [if_neg c95] at H
               exact absurd H (by simp)
              rw [if_pos c95] at H
              have c95b0 : decide (x194_3 < (t412.length : Int)) = true := decide_eq_true c95
              clear c95
              by_cases c96 : (rd t412 x194_3) = (wrap64 (t392 * (rd t391 t425)))
              rotate_left
              ·rw [if_neg c96] at H
               have c96b0 : ((rd t412 x194_3) == (wrap64 (t392 * (rd t391 t425)))) = false := beq_eq_false_iff_ne.mpr c96
               have c96b1 : ((rd t412 x194_3) != (wrap64 (t392 * (rd t391 t425)))) = true := bne_iff_ne.mpr c96
               exact absurd ((Option.some.inj H).trans HRT.out) (by decide)
              rw [if_pos c96] at H
              have c96b0 : ((rd t412 x194_3) == (wrap64 (t392 * (rd t391 t425)))) = true := beq_iff_eq.mpr c96
              have c96b1 : ((rd t412 x194_3) != (wrap64 (t392 * (rd t391 t425)))) = false := bne_eq_false_iff_eq.mpr c96
              clear c96
              by_cases c97 : (rd t412 x194_3) < (wrap64 (t392 * (rd t391 t425)))
              rotate_left
              ·rw [if_neg c97] at H
               have c97b0 : decide ((rd t412 x194_3) < (wrap64 (t392 * (rd t391 t425)))) = false := decide_eq_false c97
               clear c97
               by_cases c103 : (rd t412 x194_3) > (wrap64 (t392 * (rd t391 t425)))
               rotate_left
               ·as_aux_lemma =>
                 rw [if_neg c103] at H
                 have c103b0 : decide ((wrap64 (t392 * (rd t391 t425))) < (rd t412 x194_3)) = false := decide_eq_false c103
                 clear c103
                 have H' := Aside0.mk H
                 clear H
                 have p436 : 0 ≤ (t425 : Int) := of_decide_eq_true (by first | (with_reducible assumption) | assumption)
                 have q436 : t425 < (t391.length : Int) := of_decide_eq_true (by first | (with_reducible assumption) | assumption)
                 obtain ⟨ad436, e436, hx436_0⟩ := Kd.at_int (Kd.R_reads' HO_5.out).2.2 t425 p436 q436
                 cases e436
                 replace p436 := eq_true p436
                 replace q436 := eq_true q436
                 have p437 : 0 ≤ (x26_74 : Int) := of_decide_eq_true (by first | (with_reducible assumption) | assumption)
                 have q437 : x26_74 < (t391.length : Int) := of_decide_eq_true (by first | (with_reducible assumption) | assumption)
                 obtain ⟨ad437, e437, hx437_0⟩ := Kd.at_int (Kd.R_reads' HO_5.out).2.2 x26_74 p437 q437
                 obtain rfl : ad436 = ad437 := (by injection e437)
                 replace p437 := eq_true p437
                 replace q437 := eq_true q437
                 obtain ⟨Ao106, co106, eo106⟩ := Kd.R_slice HO_16.out
                 subst eo106
                 have p438 : 0 ≤ (x194_3 : Int) := of_decide_eq_true (by first | (with_reducible assumption) | assumption)
                 have q438 : x194_3 < (t412.length : Int) := of_decide_eq_true (by first | (with_reducible assumption) | assumption)
                 obtain ⟨ad438, e438, hx438_0⟩ := Kd.at_int (Kd.R_reads' HO_16.out).2.2 x194_3 p438 q438
                 cases e438
                 replace p438 := eq_true p438
                 replace q438 := eq_true q438
                 have p439 : 0 ≤ (x194_3 : Int) := of_decide_eq_true (by first | (with_reducible assumption) | assumption)
                 have q439 : x194_3 < (t412.length : Int) := of_decide_eq_true (by first | (with_reducible assumption) | assumption)
                 obtain ⟨ad439, e439, hx439_0⟩ := Kd.at_int (Kd.R_reads' HO_16.out).2.2 x194_3 p439 q439
                 obtain rfl : ad438 = ad439 := (by injection e439)
                 replace p439 := eq_true p439
                 replace q439 := eq_true q439
                 have p443 : 0 ≤ (x194_3 : Int) := of_decide_eq_true (by first | (with_reducible assumption) | assumption)
                 have q443 : x194_3 < (t412.length : Int) := of_decide_eq_true (by first | (with_reducible assumption) | assumption)
                 obtain ⟨ad443, e443, hx443_0⟩ := Kd.at_int (Kd.R_reads' HO_16.out).2.2 x194_3 p443 q443
                 obtain rfl : ad438 = ad443 := (by injection e443)
                 replace p443 := eq_true p443
                 replace q443 := eq_true q443
                 go_wp2
                 (try any_goals exact (xU (by assumption)).elim)
                 repeat (go_quiet (fail); try go_wp2)
                 (try any_goals exact (xU (by assumption)).elim)
                 go_roundg kj76
                 case measure => have := HJ11.out; have := HJ47.out; have := HK3.out; have := HJ61.out; have := HJ74.out; have := HJ76.out; omega
                 case rel => exact ⟨(wrap64 (x194_3 + 1)), (by first | rfl | (simp; done) | (simp [*]; done)), H', ⟨by have := HJ11.out; have := HJ47.out; have := HK3.out; have := HJ61.out; have := HJ74.out; have := HJ76.out; omega⟩, ⟨xR HO_5.out⟩, ⟨xR HO_8.out⟩, ⟨xR HO_12.out⟩, ⟨xR HO_16.out⟩, ⟨xB HB.out⟩⟩
               as_aux_lemma =>
                rw [if_pos c103] at H
                have c103b0 : decide ((wrap64 (t392 * (rd t391 t425))) < (rd t412 x194_3)) = true := decide_eq_true c103
                clear c103
                by_cases c104 : (rd t412 x194_3) > (wrap64 (t392 * (rd t391 x26_74)))
                ·rw [if_pos c104] at H
                 have c104b0 : decide ((wrap64 (t392 * (rd t391 x26_74))) < (rd t412 x194_3)) = true := decide_eq_true c104
                 clear c104
                 exact absurd ((Option.some.inj H).trans HRT.out) (by decide)
                rw [if_neg c104] at H
                have c104b0 : decide ((wrap64 (t392 * (rd t391 x26_74))) < (rd t412 x194_3)) = false := decide_eq_false c104
                clear c104
                have H' := Aside0.mk H
                clear H
                have p436 : 0 ≤ (t425 : Int) := of_decide_eq_true (by first | (with_reducible assumption) | assumption)
                have q436 : t425 < (t391.length : Int) := of_decide_eq_true (by first | (with_reducible assumption) | assumption)
                obtain ⟨ad436, e436, hx436_0⟩ := Kd.at_int (Kd.R_reads' HO_5.out).2.2 t425 p436 q436
                cases e436
                replace p436 := eq_true p436
                replace q436 := eq_true q436
                have p437 : 0 ≤ (x26_74 : Int) := of_decide_eq_true (by first | (with_reducible assumption) | assumption)
                have q437 : x26_74 < (t391.length : Int) := of_decide_eq_true (by first | (with_reducible assumption) | assumption)
                obtain ⟨ad437, e437, hx437_0⟩ := Kd.at_int (Kd.R_reads' HO_5.out).2.2 x26_74 p437 q437
                obtain rfl : ad436 = ad437 := (by injection e437)
                replace p437 := eq_true p437
                replace q437 := eq_true q437
                obtain ⟨Ao105, co105, eo105⟩ := Kd.R_slice HO_16.out
                subst eo105
                have p438 : 0 ≤ (x194_3 : Int) := of_decide_eq_true (by first | (with_reducible assumption) | assumption)
                have q438 : x194_3 < (t412.length : Int) := of_decide_eq_true (by first | (with_reducible assumption) | assumption)
                obtain ⟨ad438, e438, hx438_0⟩ := Kd.at_int (Kd.R_reads' HO_16.out).2.2 x194_3 p438 q438
                cases e438
                replace p438 := eq_true p438
                replace q438 := eq_true q438
                have p439 : 0 ≤ (x194_3 : Int) := of_decide_eq_true (by first | (with_reducible assumption) | assumption)
                have q439 : x194_3 < (t412.length : Int) := of_decide_eq_true (by first | (with_reducible assumption) | assumption)
                obtain ⟨ad439, e439, hx439_0⟩ := Kd.at_int (Kd.R_reads' HO_16.out).2.2 x194_3 p439 q439
                obtain rfl : ad438 = ad439 := (by injection e439)
                replace p439 := eq_true p439
                replace q439 := eq_true q439
                have p443 : 0 ≤ (x194_3 : Int) := of_decide_eq_true (by first | (with_reducible assumption) | assumption)
                have q443 : x194_3 < (t412.length : Int) := of_decide_eq_true (by first | (with_reducible assumption) | assumption)
                obtain ⟨ad443, e443, hx443_0⟩ := Kd.at_int (Kd.R_reads' HO_16.out).2.2 x194_3 p443 q443
                obtain rfl : ad438 = ad443 := (by injection e443)
                replace p443 := eq_true p443
                replace q443 := eq_true q443
                have p444 : 0 ≤ (x194_3 : Int) := of_decide_eq_true (by first | (with_reducible assumption) | assumption)
                have q444 : x194_3 < (t412.length : Int) := of_decide_eq_true (by first | (with_reducible assumption) | assumption)
                obtain ⟨ad444, e444, hx444_0⟩ := Kd.at_int (Kd.R_reads' HO_16.out).2.2 x194_3 p444 q444
                obtain rfl : ad438 = ad444 := (by injection e444)
                replace p444 := eq_true p444
                replace q444 := eq_true q444
                go_wp2
                (try any_goals exact (xU (by assumption)).elim)
                repeat (go_quiet (fail); try go_wp2)
                (try any_goals exact (xU (by assumption)).elim)
                go_roundg kj76
                case measure => have := HJ11.out; have := HJ47.out; have := HK3.out; have := HJ61.out; have := HJ74.out; have := HJ76.out; omega
                case rel => exact ⟨(wrap64 (x194_3 + 1)), (by first | rfl | (simp; done) | (simp [*]; done)), H', ⟨by have := HJ11.out; have := HJ47.out; have := HK3.out; have := HJ61.out; have := HJ74.out; have := HJ76.out; omega⟩, ⟨xR HO_5.out⟩, ⟨xR HO_8.out⟩, ⟨xR HO_12.out⟩, ⟨xR HO_16.out⟩, ⟨xB HB.out⟩⟩
              rw [if_pos c97] at H
              have c97b0 : decide ((rd t412 x194_3) < (wrap64 (t392 * (rd t391 t425)))) = true := decide_eq_true c97
              clear c97
              by_cases c98 : (rd t412 x194_3) < (wrap64 (t392 * (rd t391 x26_74)))
              ·rw [if_pos c98] at H
               have c98b0 : decide ((rd t412 x194_3) < (wrap64 (t392 * (rd t391 x26_74)))) = true := decide_eq_true c98
               clear c98
               exact absurd ((Option.some.inj H).trans HRT.out) (by decide)
              rw [if_neg c98] at H
              have c98b0 : decide ((rd t412 x194_3) < (wrap64 (t392 * (rd t391 x26_74)))) = false := decide_eq_false c98
              clear c98
              by_cases c99 : (rd t412 x194_3) > (wrap64 (t392 * (rd t391 t425)))
              rotate_left
              ·as_aux_lemma =>
                rw [if_neg c99] at H
                have c99b0 : decide ((wrap64 (t392 * (rd t391 t425))) < (rd t412 x194_3)) = false := decide_eq_false c99
                clear c99
                have H' := Aside0.mk H
                clear H
                have p436 : 0 ≤ (t425 : Int) := of_decide_eq_true (by first | (with_reducible assumption) | assumption)
                have q436 : t425 < (t391.length : Int) := of_decide_eq_true (by first | (with_reducible assumption) | assumption)
                obtain ⟨ad436, e436, hx436_0⟩ := Kd.at_int (Kd.R_reads' HO_5.out).2.2 t425 p436 q436
                cases e436
                replace p436 := eq_true p436
                replace q436 := eq_true q436
                have p437 : 0 ≤ (x26_74 : Int) := of_decide_eq_true (by first | (with_reducible assumption) | assumption)
                have q437 : x26_74 < (t391.length : Int) := of_decide_eq_true (by first | (with_reducible assumption) | assumption)
                obtain ⟨ad437, e437, hx437_0⟩ := Kd.at_int (Kd.R_reads' HO_5.out).2.2 x26_74 p437 q437
                obtain rfl : ad436 = ad437 := (by injection e437)
                replace p437 := eq_true p437
                replace q437 := eq_true q437
                obtain ⟨Ao102, co102, eo102⟩ := Kd.R_slice HO_16.out
                subst eo102
                have p438 : 0 ≤ (x194_3 : Int) := of_decide_eq_true (by first | (with_reducible assumption) | assumption)
                have q438 : x194_3 < (t412.length : Int) := of_decide_eq_true (by first | (with_reducible assumption) | assumption)
                obtain ⟨ad438, e438, hx438_0⟩ := Kd.at_int (Kd.R_reads' HO_16.out).2.2 x194_3 p438 q438
                cases e438
                replace p438 := eq_true p438
                replace q438 := eq_true q438
                have p439 : 0 ≤ (x194_3 : Int) := of_decide_eq_true (by first | (with_reducible assumption) | assumption)
                have q439 : x194_3 < (t412.length : Int) := of_decide_eq_true (by first | (with_reducible assumption) | assumption)
                obtain ⟨ad439, e439, hx439_0⟩ := Kd.at_int (Kd.R_reads' HO_16.out).2.2 x194_3 p439 q439
                obtain rfl : ad438 = ad439 := (by injection e439)
                replace p439 := eq_true p439
                replace q439 := eq_true q439
                have p440 : 0 ≤ (x194_3 : Int) := of_decide_eq_true (by first | (with_reducible assumption) | assumption)
                have q440 : x194_3 < (t412.length : Int) := of_decide_eq_true (by first | (with_reducible assumption) | assumption)
                obtain ⟨ad440, e440, hx440_0⟩ := Kd.at_int (Kd.R_reads' HO_16.out).2.2 x194_3 p440 q440
                obtain rfl : ad438 = ad440 := (by injection e440)
                replace p440 := eq_true p440
                replace q440 := eq_true q440
                have p441 : 0 ≤ (x194_3 : Int) := of_decide_eq_true (by first | (with_reducible assumption) | assumption)
                have q441 : x194_3 < (t412.length : Int) := of_decide_eq_true (by first | (with_reducible assumption) | assumption)
                obtain ⟨ad441, e441, hx441_0⟩ := Kd.at_int (Kd.R_reads' HO_16.out).2.2 x194_3 p441 q441
                obtain rfl : ad438 = ad441 := (by injection e441)
                replace p441 := eq_true p441
                replace q441 := eq_true q441
                go_wp2
                (try any_goals exact (xU (by assumption)).elim)
                repeat (go_quiet (fail); try go_wp2)
                (try any_goals exact (xU (by assumption)).elim)
                go_roundg kj76
                case measure => have := HJ11.out; have := HJ47.out; have := HK3.out; have := HJ61.out; have := HJ74.out; have := HJ76.out; omega
                case rel => exact ⟨(wrap64 (x194_3 + 1)), (by first | rfl | (simp; done) | (simp [*]; done)), H', ⟨by have := HJ11.out; have := HJ47.out; have := HK3.out; have := HJ61.out; have := HJ74.out; have := HJ76.out; omega⟩, ⟨xR HO_5.out⟩, ⟨xR HO_8.out⟩, ⟨xR HO_12.out⟩, ⟨xR HO_16.out⟩, ⟨xB HB.out⟩⟩
              rw [if_pos c99] at H
              have c99b0 : decide ((wrap64 (t392 * (rd t391 t425))) < (rd t412 x194_3)) = true := decide_eq_true c99
              clear c99
              by_cases c100 : (rd t412 x194_3) > (wrap64 (t392 * (rd t391 x26_74)))
              ·rw [if_pos c100] at H
               have c100b0 : decide ((wrap64 (t392 * (rd t391 x26_74))) < (rd t412 x194_3)) = true := decide_eq_true c100
               clear c100
               exact absurd ((Option.some.inj H).trans HRT.out) (by decide)
              as_aux_lemma =>
               rw [if_neg c100] at H
               have c100b0 : decide ((wrap64 (t392 * (rd t391 x26_74))) < (rd t412 x194_3)) = false := decide_eq_false c100
               clear c100
               have H' := Aside0.mk H
               clear H
               have p436 : 0 ≤ (t425 : Int) := of_decide_eq_true (by first | (with_reducible assumption) | assumption)
               have q436 : t425 < (t391.length : Int) := of_decide_eq_true (by first | (with_reducible assumption) | assumption)
               obtain ⟨ad436, e436, hx436_0⟩ := Kd.at_int (Kd.R_reads' HO_5.out).2.2 t425 p436 q436
               cases e436
               replace p436 := eq_true p436
               replace q436 := eq_true q436
               have p437 : 0 ≤ (x26_74 : Int) := of_decide_eq_true (by first | (with_reducible assumption) | assumption)
               have q437 : x26_74 < (t391.length : Int) := of_decide_eq_true (by first | (with_reducible assumption) | assumption)
               obtain ⟨ad437, e437, hx437_0⟩ := Kd.at_int (Kd.R_reads' HO_5.out).2.2 x26_74 p437 q437
               obtain rfl : ad436 = ad437 := (by injection e437)
               replace p437 := eq_true p437
               replace q437 := eq_true q437
               obtain ⟨Ao101, co101, eo101⟩ := Kd.R_slice HO_16.out
               subst eo101
               have p438 : 0 ≤ (x194_3 : Int) := of_decide_eq_true (by first | (with_reducible assumption) | assumption)
               have q438 : x194_3 < (t412.length : Int) := of_decide_eq_true (by first | (with_reducible assumption) | assumption)
               obtain ⟨ad438, e438, hx438_0⟩ := Kd.at_int (Kd.R_reads' HO_16.out).2.2 x194_3 p438 q438
               cases e438
               replace p438 := eq_true p438
               replace q438 := eq_true q438
               have p439 : 0 ≤ (x194_3 : Int) := of_decide_eq_true (by first | (with_reducible assumption) | assumption)
               have q439 : x194_3 < (t412.length : Int) := of_decide_eq_true (by first | (with_reducible assumption) | assumption)
               obtain ⟨ad439, e439, hx439_0⟩ := Kd.at_int (Kd.R_reads' HO_16.out).2.2 x194_3 p439 q439
               obtain rfl : ad438 = ad439 := (by injection e439)
               replace p439 := eq_true p439
               replace q439 := eq_true q439
               have p440 : 0 ≤ (x194_3 : Int) := of_decide_eq_true (by first | (with_reducible assumption) | assumption)
               have q440 : x194_3 < (t412.length : Int) := of_decide_eq_true (by first | (with_reducible assumption) | assumption)
               obtain ⟨ad440, e440, hx440_0⟩ := Kd.at_int (Kd.R_reads' HO_16.out).2.2 x194_3 p440 q440
               obtain rfl : ad438 = ad440 := (by injection e440)
               replace p440 := eq_true p440
               replace q440 := eq_true q440
               have p441 : 0 ≤ (x194_3 : Int) := of_decide_eq_true (by first | (with_reducible assumption) | assumption)
               have q441 : x194_3 < (t412.length : Int) := of_decide_eq_true (by first | (with_reducible assumption) | assumption)
               obtain ⟨ad441, e441, hx441_0⟩ := Kd.at_int (Kd.R_reads' HO_16.out).2.2 x194_3 p441 q441
               obtain rfl : ad438 = ad441 := (by injection e441)
               replace p441 := eq_true p441
               replace q441 := eq_true q441
               have p442 : 0 ≤ (x194_3 : Int) := of_decide_eq_true (by first | (with_reducible assumption) | assumption)
               have q442 : x194_3 < (t412.length : Int) := of_decide_eq_true (by first | (with_reducible assumption) | assumption)
               obtain ⟨ad442, e442, hx442_0⟩ := Kd.at_int (Kd.R_reads' HO_16.out).2.2 x194_3 p442 q442
               obtain rfl : ad438 = ad442 := (by injection e442)
               replace p442 := eq_true p442
               replace q442 := eq_true q442
               go_wp2
               (try any_goals exact (xU (by assumption)).elim)
               repeat (go_quiet (fail); try go_wp2)
               (try any_goals exact (xU (by assumption)).elim)
               go_roundg kj76
               case measure => have := HJ11.out; have := HJ47.out; have := HK3.out; have := HJ61.out; have := HJ74.out; have := HJ76.out; omega
               case rel => exact ⟨(wrap64 (x194_3 + 1)), (by first | rfl | (simp; done) | (simp [*]; done)), H', ⟨by have := HJ11.out; have := HJ47.out; have := HK3.out; have := HJ61.out; have := HJ74.out; have := HJ76.out; omega⟩, ⟨xR HO_5.out⟩, ⟨xR HO_8.out⟩, ⟨xR HO_12.out⟩, ⟨xR HO_16.out⟩, ⟨xB HB.out⟩⟩
   case rest => as_aux_lemma =>
    clear HC45
    obtain ⟨kq, HA, HJ44, HB⟩ := hcut
    cases kq with
    | zero => exact absurd HA.out (by simp [laws_FnRatesChanged.j6])
    | succ kj44 =>
     have H := HA.out
     clear HA
     simp only [laws_FnRatesChanged.j6] at H
     replace H := Option.bind_eq_some_iff.mp H
     obtain ⟨⟨t459, t460, t461⟩, A1280, H⟩ := H
     (try dsimp only at H)
     have A128 := Aside0.mk A1280
     clear A1280
     replace H := Option.bind_eq_some_iff.mp H
     obtain ⟨⟨t462, t463⟩, A1290, H⟩ := H
     (try dsimp only at H)
     have A129 := Aside0.mk A1290
     clear A1290
     replace H := Option.bind_eq_some_iff.mp H
     obtain ⟨⟨t464, t465⟩, A1300, H⟩ := H
     (try dsimp only at H)
     have A130 := Aside0.mk A1300
     clear A1300
     replace H := Option.bind_eq_some_iff.mp H
     obtain ⟨⟨t466, t467, t468⟩, A1310, H⟩ := H
     (try dsimp only at H)
     have A131 := Aside0.mk A1310
     clear A1310
     replace H := Option.bind_eq_some_iff.mp H
     obtain ⟨⟨t469, t470, t471⟩, A1320, H⟩ := H
     (try dsimp only at H)
     have A132 := Aside0.mk A1320
     clear A1320
     replace H := Option.bind_eq_some_iff.mp H
     obtain ⟨⟨t472, t473, t474⟩, A1330, H⟩ := H
     (try dsimp only at H)
     have A133 := Aside0.mk A1330
     clear A1330
     replace H := Option.bind_eq_some_iff.mp H
     obtain ⟨⟨t475, t476⟩, A1340, H⟩ := H
     (try dsimp only at H)
     have A134 := Aside0.mk A1340
     clear A1340
     replace H := Option.bind_eq_some_iff.mp H
     obtain ⟨⟨t479, t480⟩, A1350, H⟩ := H
     (try dsimp only at H)
     have A135 := Aside0.mk A1350
     clear A1350
     replace H := Option.bind_eq_some_iff.mp H
     obtain ⟨⟨t483, t484⟩, A1360, H⟩ := H
     (try dsimp only at H)
     have A136 := Aside0.mk A1360
     clear A1360
     replace H := Option.bind_eq_some_iff.mp H
     obtain ⟨⟨t487, t488⟩, A1370, H⟩ := H
     (try dsimp only at H)
     have A137 := Aside0.mk A1370
     clear A1370
     replace H := Option.bind_eq_some_iff.mp H
     obtain ⟨⟨t489, t490, t491⟩, A1380, H⟩ := H
     (try dsimp only at H)
     have A138 := Aside0.mk A1380
     clear A1380
     replace H := Option.bind_eq_some_iff.mp H
     obtain ⟨⟨t492, t493, t494⟩, A1390, H⟩ := H
     (try dsimp only at H)
     have A139 := Aside0.mk A1390
     clear A1390
     have HC140 := Aside0.mk H
     clear H
     go_upto_region 48 with (first | (go_at_call 25; (with_reducible refine (spec_DrawLengthAfter.calls _ _ l1 t459 t460 t461 _ ?side1 ?side2 A128.out).mono ?_); (case side1 => exact xC (Kd.C_below HR1.out HB.out)); (case side2 => exact HC1.out); rintro e w141 ⟨rfl, hb⟩; replace HB := Aside0.mk (below_step (xB HB.out) hb); (try clear hb); (try clear hb2); (try clear hk); (try clear hi)) | (go_at_call 22; (with_reducible refine (impl_LengthAfter.calls t459 t460 t461 t462 t463 _ A129.out).mono ?_); rintro e w' ⟨rfl, ⟨nd, rfl⟩⟩; (try exact xD)) | (go_at_call 26; (with_reducible refine (spec_LengthAfter.calls t459 t460 t461 t464 t465 _ A130.out).mono ?_); rintro e w' ⟨rfl, ⟨nd, rfl⟩⟩; (try exact xD)) | (go_at_call 27; (with_reducible refine (spec_DrawSourceOf.calls _ _ l1 t466 t467 t468 _ ?side1 ?side2 A131.out).mono ?_); (case side1 => repeat (first | exact (Kd.C_below HR1.out (xB HB.out)) | (with_reducible refine Kd.C_alloc ?_ _) | (with_reducible refine Kd.C_drewN ?_ _) | (with_reducible refine Kd.C_drew ?_))); (case side2 => exact HC1.out); rintro e w142 ⟨rfl, hb⟩; replace HB := Aside0.mk (below_step (xB HB.out) hb); (try clear hb); (try clear hb2); (try clear hk); (try clear hi)) | (go_at_call 23; (with_reducible refine (impl_SourceOf.calls t466 t467 t468 t469 t470 t471 _ A132.out).mono ?_); rintro e w' ⟨rfl, ⟨nd, rfl⟩⟩; (try exact xD)) | (go_at_call 28; (with_reducible refine (spec_SourceOf.calls t466 t467 t468 t472 t473 t474 _ A133.out).mono ?_); rintro e w' ⟨rfl, ⟨nd, rfl⟩⟩; (try exact xD)) | (go_at_call 29; (with_reducible refine (spec_DrawLinesOfSame.calls kj44 _ _ l1 t475 t476 _ ?side1 ?side2 A134.out).mono ?_); (case side1 => repeat (first | exact (Kd.C_below HR1.out (xB HB.out)) | (with_reducible refine Kd.C_alloc ?_ _) | (with_reducible refine Kd.C_drewN ?_ _) | (with_reducible refine Kd.C_drew ?_))); (case side2 => exact HC1.out); rintro e w143 ⟨v477, rfl, ho0, hb⟩; have HO478 := Aside0.mk (Kd.R_lower ho0 (below_size (xB HB.out))); replace HB := Aside0.mk (below_step (xB HB.out) hb); (try clear hb); (try clear hb2); (try clear hk); (try clear hi); (try clear ho0); obtain ⟨Ao144, co144, eo144⟩ := Kd.R_slice HO478.out; subst eo144) | (go_at_call 30; (with_reducible refine (impl_LinesOfSame.calls kj44 _ _ t475 t476 t479 t480 _ ?side1 ?side2 A135.out).mono ?_); (case side1 => exact xC ((Kd.R_reads' HO478.out).2.2)); (case side2 => exact (Kd.R_reads' HO478.out).2.1); rintro e w145 ⟨v481, rfl, ho0, hb⟩; have HO482 := Aside0.mk (Kd.R_lower (Kd.R_new' ho0 (Kd.R_lt (xR HO478.out))) (below_size (xB HB.out))); replace HO478 := Aside0.mk (Kd.R_elder' (xR HO478.out) (Kd.R_base ho0) hb); replace HB := Aside0.mk (below_step (xB HB.out) hb); (try clear hb); (try clear hb2); (try clear hk); (try clear hi); (try clear ho0)) | (go_at_call 31; (with_reducible refine (spec_LinesOfSame.calls kj44 _ _ t475 t476 t483 t484 _ ?side1 ?side2 A136.out).mono ?_); (case side1 => exact xC ((Kd.R_reads' HO478.out).2.2)); (case side2 => exact (Kd.R_reads' HO478.out).2.1); rintro e w146 ⟨v485, rfl, ho0, hb⟩; have HO486 := Aside0.mk (Kd.R_lower (Kd.R_new' (Kd.R_new' ho0 (Kd.R_lt (xR HO478.out))) (Kd.R_lt (xR HO482.out))) (below_size (xB HB.out))); replace HO478 := Aside0.mk (Kd.R_elder' (xR HO478.out) (Kd.R_base ho0) hb); replace HO482 := Aside0.mk (Kd.R_elder' (xR HO482.out) (Kd.R_base ho0) hb); replace HB := Aside0.mk (below_step (xB HB.out) hb); (try clear hb); (try clear hb2); (try clear hk); (try clear hi); (try clear ho0)) | (go_at_call 32; (with_reducible refine (spec_DrawLeastRatio.calls _ _ l1 t487 t488 _ ?side1 ?side2 A137.out).mono ?_); (case side1 => exact xC (Kd.C_below HR1.out HB.out)); (case side2 => exact HC1.out); rintro e w147 ⟨rfl, hb⟩; replace HO478 := Aside0.mk (Kd.R_below (xR HO478.out) hb); replace HO482 := Aside0.mk (Kd.R_below (xR HO482.out) hb); replace HO486 := Aside0.mk (Kd.R_below (xR HO486.out) hb); replace HB := Aside0.mk (below_step (xB HB.out) hb); (try clear hb); (try clear hb2); (try clear hk); (try clear hi)) | (go_at_call 24; (with_reducible refine (impl_LeastRatio.calls kj44 t487 t488 t489 t490 t491 _ A138.out).mono ?_); rintro e w148 ⟨rfl, hb⟩; replace HO478 := Aside0.mk (Kd.R_below (xR HO478.out) hb); replace HO482 := Aside0.mk (Kd.R_below (xR HO482.out) hb); replace HO486 := Aside0.mk (Kd.R_below (xR HO486.out) hb); replace HB := Aside0.mk (below_step (xB HB.out) hb); (try clear hb); (try clear hb2); (try clear hk); (try clear hi)) | (go_at_call 33; (with_reducible refine (spec_LeastRatio.calls kj44 t487 t488 t492 t493 t494 _ A139.out).mono ?_); rintro e w' ⟨rfl, ⟨nd, rfl⟩⟩; (try exact xD)))
     repeat (go_quiet (first | (go_at_call 25; (with_reducible refine (spec_DrawLengthAfter.calls _ _ l1 t459 t460 t461 _ ?side1 ?side2 A128.out).mono ?_); (case side1 => exact xC (Kd.C_below HR1.out HB.out)); (case side2 => exact HC1.out); rintro e w141 ⟨rfl, hb⟩; replace HB := Aside0.mk (below_step (xB HB.out) hb); (try clear hb); (try clear hb2); (try clear hk); (try clear hi)) | (go_at_call 22; (with_reducible refine (impl_LengthAfter.calls t459 t460 t461 t462 t463 _ A129.out).mono ?_); rintro e w' ⟨rfl, ⟨nd, rfl⟩⟩; (try exact xD)) | (go_at_call 26; (with_reducible refine (spec_LengthAfter.calls t459 t460 t461 t464 t465 _ A130.out).mono ?_); rintro e w' ⟨rfl, ⟨nd, rfl⟩⟩; (try exact xD)) | (go_at_call 27; (with_reducible refine (spec_DrawSourceOf.calls _ _ l1 t466 t467 t468 _ ?side1 ?side2 A131.out).mono ?_); (case side1 => repeat (first | exact (Kd.C_below HR1.out (xB HB.out)) | (with_reducible refine Kd.C_alloc ?_ _) | (with_reducible refine Kd.C_drewN ?_ _) | (with_reducible refine Kd.C_drew ?_))); (case side2 => exact HC1.out); rintro e w142 ⟨rfl, hb⟩; replace HB := Aside0.mk (below_step (xB HB.out) hb); (try clear hb); (try clear hb2); (try clear hk); (try clear hi)) | (go_at_call 23; (with_reducible refine (impl_SourceOf.calls t466 t467 t468 t469 t470 t471 _ A132.out).mono ?_); rintro e w' ⟨rfl, ⟨nd, rfl⟩⟩; (try exact xD)) | (go_at_call 28; (with_reducible refine (spec_SourceOf.calls t466 t467 t468 t472 t473 t474 _ A133.out).mono ?_); rintro e w' ⟨rfl, ⟨nd, rfl⟩⟩; (try exact xD)) | (go_at_call 29; (with_reducible refine (spec_DrawLinesOfSame.calls kj44 _ _ l1 t475 t476 _ ?side1 ?side2 A134.out).mono ?_); (case side1 => repeat (first | exact (Kd.C_below HR1.out (xB HB.out)) | (with_reducible refine Kd.C_alloc ?_ _) | (with_reducible refine Kd.C_drewN ?_ _) | (with_reducible refine Kd.C_drew ?_))); (case side2 => exact HC1.out); rintro e w143 ⟨v477, rfl, ho0, hb⟩; have HO478 := Aside0.mk (Kd.R_lower ho0 (below_size (xB HB.out))); replace HB := Aside0.mk (below_step (xB HB.out) hb); (try clear hb); (try clear hb2); (try clear hk); (try clear hi); (try clear ho0); obtain ⟨Ao144, co144, eo144⟩ := Kd.R_slice HO478.out; subst eo144) | (go_at_call 30; (with_reducible refine (impl_LinesOfSame.calls kj44 _ _ t475 t476 t479 t480 _ ?side1 ?side2 A135.out).mono ?_); (case side1 => exact xC ((Kd.R_reads' HO478.out).2.2)); (case side2 => exact (Kd.R_reads' HO478.out).2.1); rintro e w145 ⟨v481, rfl, ho0, hb⟩; have HO482 := Aside0.mk (Kd.R_lower (Kd.R_new' ho0 (Kd.R_lt (xR HO478.out))) (below_size (xB HB.out))); replace HO478 := Aside0.mk (Kd.R_elder' (xR HO478.out) (Kd.R_base ho0) hb); replace HB := Aside0.mk (below_step (xB HB.out) hb); (try clear hb); (try clear hb2); (try clear hk); (try clear hi); (try clear ho0)) | (go_at_call 31; (with_reducible refine (spec_LinesOfSame.calls kj44 _ _ t475 t476 t483 t484 _ ?side1 ?side2 A136.out).mono ?_); (case side1 => exact xC ((Kd.R_reads' HO478.out).2.2)); (case side2 => exact (Kd.R_reads' HO478.out).2.1); rintro e w146 ⟨v485, rfl, ho0, hb⟩; have HO486 := Aside0.mk (Kd.R_lower (Kd.R_new' (Kd.R_new' ho0 (Kd.R_lt (xR HO478.out))) (Kd.R_lt (xR HO482.out))) (below_size (xB HB.out))); replace HO478 := Aside0.mk (Kd.R_elder' (xR HO478.out) (Kd.R_base ho0) hb); replace HO482 := Aside0.mk (Kd.R_elder' (xR HO482.out) (Kd.R_base ho0) hb); replace HB := Aside0.mk (below_step (xB HB.out) hb); (try clear hb); (try clear hb2); (try clear hk); (try clear hi); (try clear ho0)) | (go_at_call 32; (with_reducible refine (spec_DrawLeastRatio.calls _ _ l1 t487 t488 _ ?side1 ?side2 A137.out).mono ?_); (case side1 => exact xC (Kd.C_below HR1.out HB.out)); (case side2 => exact HC1.out); rintro e w147 ⟨rfl, hb⟩; replace HO478 := Aside0.mk (Kd.R_below (xR HO478.out) hb); replace HO482 := Aside0.mk (Kd.R_below (xR HO482.out) hb); replace HO486 := Aside0.mk (Kd.R_below (xR HO486.out) hb); replace HB := Aside0.mk (below_step (xB HB.out) hb); (try clear hb); (try clear hb2); (try clear hk); (try clear hi)) | (go_at_call 24; (with_reducible refine (impl_LeastRatio.calls kj44 t487 t488 t489 t490 t491 _ A138.out).mono ?_); rintro e w148 ⟨rfl, hb⟩; replace HO478 := Aside0.mk (Kd.R_below (xR HO478.out) hb); replace HO482 := Aside0.mk (Kd.R_below (xR HO482.out) hb); replace HO486 := Aside0.mk (Kd.R_below (xR HO486.out) hb); replace HB := Aside0.mk (below_step (xB HB.out) hb); (try clear hb); (try clear hb2); (try clear hk); (try clear hi)) | (go_at_call 33; (with_reducible refine (spec_LeastRatio.calls kj44 t487 t488 t492 t493 t494 _ A139.out).mono ?_); rintro e w' ⟨rfl, ⟨nd, rfl⟩⟩; (try exact xD))); go_upto_region 48 with (first | (go_at_call 25; (with_reducible refine (spec_DrawLengthAfter.calls _ _ l1 t459 t460 t461 _ ?side1 ?side2 A128.out).mono ?_); (case side1 => exact xC (Kd.C_below HR1.out HB.out)); (case side2 => exact HC1.out); rintro e w141 ⟨rfl, hb⟩; replace HB := Aside0.mk (below_step (xB HB.out) hb); (try clear hb); (try clear hb2); (try clear hk); (try clear hi)) | (go_at_call 22; (with_reducible refine (impl_LengthAfter.calls t459 t460 t461 t462 t463 _ A129.out).mono ?_); rintro e w' ⟨rfl, ⟨nd, rfl⟩⟩; (try exact xD)) | (go_at_call 26; (with_reducible refine (spec_LengthAfter.calls t459 t460 t461 t464 t465 _ A130.out).mono ?_); rintro e w' ⟨rfl, ⟨nd, rfl⟩⟩; (try exact xD)) | (go_at_call 27; (with_reducible refine (spec_DrawSourceOf.calls _ _ l1 t466 t467 t468 _ ?side1 ?side2 A131.out).mono ?_); (case side1 => repeat (first | exact (Kd.C_below HR1.out (xB HB.out)) | (with_reducible refine Kd.C_alloc ?_ _) | (with_reducible refine Kd.C_drewN ?_ _) | (with_reducible refine Kd.C_drew ?_))); (case side2 => exact HC1.out); rintro e w142 ⟨rfl, hb⟩; replace HB := Aside0.mk (below_step (xB HB.out) hb); (try clear hb); (try clear hb2); (try clear hk); (try clear hi)) | (go_at_call 23; (with_reducible refine (impl_SourceOf.calls t466 t467 t468 t469 t470 t471 _ A132.out).mono ?_); rintro e w' ⟨rfl, ⟨nd, rfl⟩⟩; (try exact xD)) | (go_at_call 28; (with_reducible refine (spec_SourceOf.calls t466 t467 t468 t472 t473 t474 _ A133.out).mono ?_); rintro e w' ⟨rfl, ⟨nd, rfl⟩⟩; (try exact xD)) | (go_at_call 29; (with_reducible refine (spec_DrawLinesOfSame.calls kj44 _ _ l1 t475 t476 _ ?side1 ?side2 A134.out).mono ?_); (case side1 => repeat (first | exact (Kd.C_below HR1.out (xB HB.out)) | (with_reducible refine Kd.C_alloc ?_ _) | (with_reducible refine Kd.C_drewN ?_ _) | (with_reducible refine Kd.C_drew ?_))); (case side2 => exact HC1.out); rintro e w143 ⟨v477, rfl, ho0, hb⟩; have HO478 := Aside0.mk (Kd.R_lower ho0 (below_size (xB HB.out))); replace HB := Aside0.mk (below_step (xB HB.out) hb); (try clear hb); (try clear hb2); (try clear hk); (try clear hi); (try clear ho0); obtain ⟨Ao144, co144, eo144⟩ := Kd.R_slice HO478.out; subst eo144) | (go_at_call 30; (with_reducible refine (impl_LinesOfSame.calls kj44 _ _ t475 t476 t479 t480 _ ?side1 ?side2 A135.out).mono ?_); (case side1 => exact xC ((Kd.R_reads' HO478.out).2.2)); (case side2 => exact (Kd.R_reads' HO478.out).2.1); rintro e w145 ⟨v481, rfl, ho0, hb⟩; have HO482 := Aside0.mk (Kd.R_lower (Kd.R_new' ho0 (Kd.R_lt (xR HO478.out))) (below_size (xB HB.out))); replace HO478 := Aside0.mk (Kd.R_elder' (xR HO478.out) (Kd.R_base ho0) hb); replace HB := Aside0.mk (below_step (xB HB.out) hb); (try clear hb); (try clear hb2); (try clear hk); (try clear hi); (try clear ho0)) | (go_at_call 31; (with_reducible refine (spec_LinesOfSame.calls kj44 _ _ t475 t476 t483 t484 _ ?side1 ?side2 A136.out).mono ?_); (case side1 => exact xC ((Kd.R_reads' HO478.out).2.2)); (case side2 => exact (Kd.R_reads' HO478.out).2.1); rintro e w146 ⟨v485, rfl, ho0, hb⟩; have HO486 := Aside0.mk (Kd.R_lower (Kd.R_new' (Kd.R_new' ho0 (Kd.R_lt (xR HO478.out))) (Kd.R_lt (xR HO482.out))) (below_size (xB HB.out))); replace HO478 := Aside0.mk (Kd.R_elder' (xR HO478.out) (Kd.R_base ho0) hb); replace HO482 := Aside0.mk (Kd.R_elder' (xR HO482.out) (Kd.R_base ho0) hb); replace HB := Aside0.mk (below_step (xB HB.out) hb); (try clear hb); (try clear hb2); (try clear hk); (try clear hi); (try clear ho0)) | (go_at_call 32; (with_reducible refine (spec_DrawLeastRatio.calls _ _ l1 t487 t488 _ ?side1 ?side2 A137.out).mono ?_); (case side1 => exact xC (Kd.C_below HR1.out HB.out)); (case side2 => exact HC1.out); rintro e w147 ⟨rfl, hb⟩; replace HO478 := Aside0.mk (Kd.R_below (xR HO478.out) hb); replace HO482 := Aside0.mk (Kd.R_below (xR HO482.out) hb); replace HO486 := Aside0.mk (Kd.R_below (xR HO486.out) hb); replace HB := Aside0.mk (below_step (xB HB.out) hb); (try clear hb); (try clear hb2); (try clear hk); (try clear hi)) | (go_at_call 24; (with_reducible refine (impl_LeastRatio.calls kj44 t487 t488 t489 t490 t491 _ A138.out).mono ?_); rintro e w148 ⟨rfl, hb⟩; replace HO478 := Aside0.mk (Kd.R_below (xR HO478.out) hb); replace HO482 := Aside0.mk (Kd.R_below (xR HO482.out) hb); replace HO486 := Aside0.mk (Kd.R_below (xR HO486.out) hb); replace HB := Aside0.mk (below_step (xB HB.out) hb); (try clear hb); (try clear hb2); (try clear hk); (try clear hi)) | (go_at_call 33; (with_reducible refine (spec_LeastRatio.calls kj44 t487 t488 t492 t493 t494 _ A139.out).mono ?_); rintro e w' ⟨rfl, ⟨nd, rfl⟩⟩; (try exact xD))))
     (try any_goals exact (xU (by assumption)).elim)
     (try simp only [Act.put, List.setIfInBounds_toArray, List.set_cons_zero, List.set_cons_succ])
     go_cut [504] (fun v504 wc => ∃ (kq : Nat) (x504_139 : Bool), v504 = .bool x504_139 ∧ Aside0 (laws_FnRatesChanged.j7 kq t475 t476 t479 t480 x504_139 = some r) ∧ Aside0 (kq ≤ kj44) ∧ Aside0 (Kd.R (Kd.int .i64) 3 wc w.heap.size (fun k_ => some k_ ≠ (v481 : Value).ownBlock) (.slice Ao144 t475.length co144) t475) ∧ Aside0 (Kd.R (Kd.int .i64) 3 wc w.heap.size (fun k_ => some k_ ≠ ((.slice Ao144 t475.length co144) : Value).ownBlock) v481 t479) ∧ Aside0 (Below w.heap.size w wc))
     case first => as_aux_lemma =>
      have H := HC140.out
      clear HC140
      by_cases c149 : (t463 != t465) = true
      ·rw [if_pos c149] at H; exact absurd H (by have hr_ := HRT.out; cases kj44 <;> simp [laws_FnRatesChanged.j7, hr_])
      rw [if_neg c149] at H
      have c149b0 : (t463 != t465) = false := by simpa using c149
      (try (have c149b1 : decide (t463 = t465) = true := by simpa using c149))
      (try (have c149b2 : (t463 == t465) = true := by simpa using c149))
      clear c149
      (first | rw [c149b0] | (simp only [i64_w, i32_w]; rw [c149b0]) | skip)
      by_cases c150 : t462 = t464
      rotate_left
      ·rw [if_neg c150] at H; exact absurd H (by have hr_ := HRT.out; cases kj44 <;> simp [laws_FnRatesChanged.j7, hr_])
      rw [if_pos c150] at H
      have c150b0 : (t462 == t464) = true := beq_iff_eq.mpr c150
      have c150b1 : (t462 != t464) = false := bne_eq_false_iff_eq.mpr c150
      clear c150
      by_cases c151 : (t471 != t474) = true
      ·rw [if_pos c151] at H; exact absurd H (by have hr_ := HRT.out; cases kj44 <;> simp [laws_FnRatesChanged.j7, hr_])
      rw [if_neg c151] at H
      have c151b0 : (t471 != t474) = false := by simpa using c151
      (try (have c151b1 : decide (t471 = t474) = true := by simpa using c151))
      (try (have c151b2 : (t471 == t474) = true := by simpa using c151))
      clear c151
      by_cases c152 : t469 = t472
      rotate_left
      ·rw [if_neg c152] at H; exact absurd H (by have hr_ := HRT.out; cases kj44 <;> simp [laws_FnRatesChanged.j7, hr_])
      rw [if_pos c152] at H
      have c152b0 : (t469 == t472) = true := beq_iff_eq.mpr c152
      have c152b1 : (t469 != t472) = false := bne_eq_false_iff_eq.mpr c152
      clear c152
      by_cases c153 : t470 = t473
      rotate_left
      ·rw [if_neg c153] at H; exact absurd H (by have hr_ := HRT.out; cases kj44 <;> simp [laws_FnRatesChanged.j7, hr_])
      rw [if_pos c153] at H
      have c153b0 : (t470 == t473) = true := beq_iff_eq.mpr c153
      have c153b1 : (t470 != t473) = false := bne_eq_false_iff_eq.mpr c153
      clear c153
      by_cases c154 : (t480 != t484) = true
      ·rw [if_pos c154] at H; exact absurd H (by have hr_ := HRT.out; cases kj44 <;> simp [laws_FnRatesChanged.j7, hr_])
      rw [if_neg c154] at H
      have c154b0 : (t480 != t484) = false := by simpa using c154
      (try (have c154b1 : decide (t480 = t484) = true := by simpa using c154))
      (try (have c154b2 : (t480 == t484) = true := by simpa using c154))
      clear c154
      obtain ⟨t495, A155, H⟩ := xO H
      (try dsimp only at H)
      by_cases c156 : t495 = true
      rotate_left
      ·replace c156 := Bool.eq_false_iff.mpr c156; subst c156; exact absurd H (by have hr_ := HRT.out; cases kj44 <;> simp [laws_FnRatesChanged.j7, hr_])
      subst c156
      rw [if_pos rfl] at H
      by_cases c157 : (t491 != t494) = true
      ·rw [if_pos c157] at H; exact absurd H (by have hr_ := HRT.out; cases kj44 <;> simp [laws_FnRatesChanged.j7, hr_])
      rw [if_neg c157] at H
      have c157b0 : (t491 != t494) = false := by simpa using c157
      (try (have c157b1 : decide (t491 = t494) = true := by simpa using c157))
      (try (have c157b2 : (t491 == t494) = true := by simpa using c157))
      clear c157
      by_cases c158 : t489 = t492
      rotate_left
      ·rw [if_neg c158] at H; exact absurd H (by have hr_ := HRT.out; cases kj44 <;> simp [laws_FnRatesChanged.j7, hr_])
      rw [if_pos c158] at H
      have c158b0 : (t489 == t492) = true := beq_iff_eq.mpr c158
      have c158b1 : (t489 != t492) = false := bne_eq_false_iff_eq.mpr c158
      clear c158
      by_cases c159 : t490 = t493
      rotate_left
      ·rw [if_neg c159] at H; exact absurd H (by have hr_ := HRT.out; cases kj44 <;> simp [laws_FnRatesChanged.j7, hr_])
      as_aux_lemma =>
       rw [if_pos c159] at H
       have c159b0 : (t490 == t493) = true := beq_iff_eq.mpr c159
       have c159b1 : (t490 != t493) = false := bne_eq_false_iff_eq.mpr c159
       clear c159
       by_cases c160 : t491 = true
       rotate_left
       ·as_aux_lemma =>
          replace c160 := Bool.eq_false_iff.mpr c160
          subst c160
          rw [if_neg (show ¬ (false = true) by decide)] at H
          have H' := Aside0.mk H
          clear H
          obtain ⟨Ao165, co165, eo165⟩ := Kd.R_slice HO482.out
          subst eo165
          obtain ⟨Ao166, co166, eo166⟩ := Kd.R_slice HO486.out
          subst eo166
          go_wp2_with (first | (go_at_call 21; (with_reducible refine (laws_iSame.calls kj44 _ _ t479 _ _ t483 true _ ?side1 ?side2 ?side3 ?side4 A155.out).mono ?_); (case side1 => exact xC ((Kd.R_reads' HO482.out).2.2)); (case side2 => exact (Kd.R_reads' HO482.out).2.1); (case side3 => exact xC ((Kd.R_reads' HO486.out).2.2)); (case side4 => exact (Kd.R_reads' HO486.out).2.1); rintro e w' ⟨rfl, ⟨nd, rfl⟩⟩; (try exact xD)))
          (try any_goals exact (xU (by assumption)).elim)
          repeat (go_quiet (first | (go_at_call 21; (with_reducible refine (laws_iSame.calls kj44 _ _ t479 _ _ t483 true _ ?side1 ?side2 ?side3 ?side4 A155.out).mono ?_); (case side1 => exact xC ((Kd.R_reads' HO482.out).2.2)); (case side2 => exact (Kd.R_reads' HO482.out).2.1); (case side3 => exact xC ((Kd.R_reads' HO486.out).2.2)); (case side4 => exact (Kd.R_reads' HO486.out).2.1); rintro e w' ⟨rfl, ⟨nd, rfl⟩⟩; (try exact xD))); try go_wp2_with (first | (go_at_call 21; (with_reducible refine (laws_iSame.calls kj44 _ _ t479 _ _ t483 true _ ?side1 ?side2 ?side3 ?side4 A155.out).mono ?_); (case side1 => exact xC ((Kd.R_reads' HO482.out).2.2)); (case side2 => exact (Kd.R_reads' HO482.out).2.1); (case side3 => exact xC ((Kd.R_reads' HO486.out).2.2)); (case side4 => exact (Kd.R_reads' HO486.out).2.1); rintro e w' ⟨rfl, ⟨nd, rfl⟩⟩; (try exact xD))))
          (try any_goals exact (xU (by assumption)).elim)
          go_meet
          case rel => exact ⟨_, (false), (by first | rfl | (simp; done) | (simp [*]; done)), H', ⟨by have := HJ11.out; have := HJ44.out; first | omega | exact Nat.le_refl _⟩, ⟨by (with_reducible repeat (first | apply Kd.R_alloc | apply Kd.R_drewN | apply Kd.R_drew)); exact Kd.R_mono HO478.out (fun _ hk => hk.1.2)⟩, ⟨by (with_reducible repeat (first | apply Kd.R_alloc | apply Kd.R_drewN | apply Kd.R_drew)); exact Kd.R_mono HO482.out (fun _ hk => hk.1.2)⟩, ⟨xB HB.out⟩⟩
       subst c160
       rw [if_pos rfl] at H
       by_cases c161 : (wrap64 (t489 * t488)) = (wrap64 (t490 * t487))
       rotate_left
       ·rw [if_neg c161] at H; exact absurd H (by have hr_ := HRT.out; cases kj44 <;> simp [laws_FnRatesChanged.j7, hr_])
       rw [if_pos c161] at H
       have c161b0 : ((wrap64 (t489 * t488)) == (wrap64 (t490 * t487))) = true := beq_iff_eq.mpr c161
       have c161b1 : ((wrap64 (t489 * t488)) != (wrap64 (t490 * t487))) = false := bne_eq_false_iff_eq.mpr c161
       clear c161
       obtain ⟨t496, A162, H⟩ := xO H
       (try dsimp only at H)
       have H' := Aside0.mk H
       clear H
       obtain ⟨Ao163, co163, eo163⟩ := Kd.R_slice HO482.out
       subst eo163
       obtain ⟨Ao164, co164, eo164⟩ := Kd.R_slice HO486.out
       subst eo164
       go_wp2_with (first | (go_at_call 21; (with_reducible refine (laws_iSame.calls kj44 _ _ t479 _ _ t483 true _ ?side1 ?side2 ?side3 ?side4 A155.out).mono ?_); (case side1 => exact xC ((Kd.R_reads' HO482.out).2.2)); (case side2 => exact (Kd.R_reads' HO482.out).2.1); (case side3 => exact xC ((Kd.R_reads' HO486.out).2.2)); (case side4 => exact (Kd.R_reads' HO486.out).2.1); rintro e w' ⟨rfl, ⟨nd, rfl⟩⟩; (try exact xD)) | (go_at_call 34; (with_reducible refine (laws_iCommon.calls kj44 t489 t490 t496 _ A162.out).mono ?_); rintro e w' ⟨rfl, ⟨nd, rfl⟩⟩; (try exact xD)))
       (try any_goals exact (xU (by assumption)).elim)
       repeat (go_quiet (first | (go_at_call 21; (with_reducible refine (laws_iSame.calls kj44 _ _ t479 _ _ t483 true _ ?side1 ?side2 ?side3 ?side4 A155.out).mono ?_); (case side1 => exact xC ((Kd.R_reads' HO482.out).2.2)); (case side2 => exact (Kd.R_reads' HO482.out).2.1); (case side3 => exact xC ((Kd.R_reads' HO486.out).2.2)); (case side4 => exact (Kd.R_reads' HO486.out).2.1); rintro e w' ⟨rfl, ⟨nd, rfl⟩⟩; (try exact xD)) | (go_at_call 34; (with_reducible refine (laws_iCommon.calls kj44 t489 t490 t496 _ A162.out).mono ?_); rintro e w' ⟨rfl, ⟨nd, rfl⟩⟩; (try exact xD))); try go_wp2_with (first | (go_at_call 21; (with_reducible refine (laws_iSame.calls kj44 _ _ t479 _ _ t483 true _ ?side1 ?side2 ?side3 ?side4 A155.out).mono ?_); (case side1 => exact xC ((Kd.R_reads' HO482.out).2.2)); (case side2 => exact (Kd.R_reads' HO482.out).2.1); (case side3 => exact xC ((Kd.R_reads' HO486.out).2.2)); (case side4 => exact (Kd.R_reads' HO486.out).2.1); rintro e w' ⟨rfl, ⟨nd, rfl⟩⟩; (try exact xD)) | (go_at_call 34; (with_reducible refine (laws_iCommon.calls kj44 t489 t490 t496 _ A162.out).mono ?_); rintro e w' ⟨rfl, ⟨nd, rfl⟩⟩; (try exact xD))))
       (try any_goals exact (xU (by assumption)).elim)
       go_meet
       case rel => exact ⟨_, ((t496 != 1)), (by first | rfl | (simp; done) | (simp [*]; done)), H', ⟨by have := HJ11.out; have := HJ44.out; first | omega | exact Nat.le_refl _⟩, ⟨by (with_reducible repeat (first | apply Kd.R_alloc | apply Kd.R_drewN | apply Kd.R_drew)); exact Kd.R_mono HO478.out (fun _ hk => hk.1.2)⟩, ⟨by (with_reducible repeat (first | apply Kd.R_alloc | apply Kd.R_drewN | apply Kd.R_drew)); exact Kd.R_mono HO482.out (fun _ hk => hk.1.2)⟩, ⟨xB HB.out⟩⟩
     case rest => as_aux_lemma =>
      clear HC140
      obtain ⟨kq, x504_139, rfl, HA, HJ139, HO_50, HO_52, HB⟩ := hcut
      cases kq with
      | zero => exact absurd HA.out (by simp [laws_FnRatesChanged.j7])
      | succ kj139 =>
       have H := HA.out
       clear HA
       simp only [laws_FnRatesChanged.j7] at H
       by_cases c167 : x504_139 = true
       ·as_aux_lemma =>
         subst c167
         rw [if_pos rfl] at H
         exact absurd ((Option.some.inj H).trans HRT.out) (by decide)
       replace c167 := Bool.eq_false_iff.mpr c167
       subst c167
       rw [if_neg (show ¬ (false = true) by decide)] at H
       by_cases c168 : t480 = true
       rotate_left
       ·as_aux_lemma =>
         replace c168 := Bool.eq_false_iff.mpr c168
         subst c168
         rw [if_neg (show ¬ (false = true) by decide)] at H
         obtain rfl := Option.some.inj H
         go_wp2
         (try any_goals exact (xU (by assumption)).elim)
         repeat (go_quiet (fail); try go_wp2)
         (try any_goals exact (xU (by assumption)).elim)
         go_ret
         exact ⟨by first | rfl | (simp [errW_none, errW_some] <;> rfl) | (simp [*, errW_none, errW_some] <;> rfl), xB HB.out⟩

       as_aux_lemma =>
        subst c168
        rw [if_pos rfl] at H
        replace H := Option.bind_eq_some_iff.mp H
        obtain ⟨⟨t497, t498⟩, A1690, H⟩ := H
        (try dsimp only at H)
        have A169 := Aside0.mk A1690
        clear A1690
        by_cases c170 : t498 = true
        rotate_left
        ·replace c170 := Bool.eq_false_iff.mpr c170
         subst c170
         rw [if_neg (show ¬ (false = true) by decide)] at H
         exact absurd ((Option.some.inj H).trans HRT.out) (by decide)
        subst c170
        rw [if_pos rfl] at H
        obtain ⟨t501, A171, H⟩ := xO H
        (try dsimp only at H)
        obtain rfl := Option.some.inj H
        go_wp2_with (first | (go_at_call 19; (with_reducible refine (impl_LineSamples.calls kj139 _ _ t475 t476 1 t497 true _ ?side1 ?side2 A169.out).mono ?_); (case side1 => exact xC ((Kd.R_reads' HO_50.out).2.2)); (case side2 => exact (Kd.R_reads' HO_50.out).2.1); rintro e w172 ⟨v499, rfl, ho0, hb⟩; have HO500 := Aside0.mk (Kd.R_lower (Kd.R_new' (Kd.R_new' ho0 (Kd.R_lt (xR HO_50.out))) (Kd.R_lt (xR HO_52.out))) (below_size (xB HB.out))); replace HO_50 := Aside0.mk (Kd.R_elder' (xR HO_50.out) (Kd.R_base ho0) hb); replace HO_52 := Aside0.mk (Kd.R_elder' (xR HO_52.out) (Kd.R_base ho0) hb); replace HB := Aside0.mk (below_step (xB HB.out) hb); (try clear hb); (try clear hb2); (try clear hk); (try clear hi); (try clear ho0); obtain ⟨Ao173, co173, eo173⟩ := Kd.R_slice HO500.out; subst eo173; obtain ⟨Ao174, co174, eo174⟩ := Kd.R_slice HO_52.out; subst eo174) | (go_at_call 21; (with_reducible refine (laws_iSame.calls kj139 _ _ t497 _ _ t479 t501 _ ?side1 ?side2 ?side3 ?side4 A171.out).mono ?_); (case side1 => exact xC ((Kd.R_reads' HO500.out).2.2)); (case side2 => exact (Kd.R_reads' HO500.out).2.1); (case side3 => exact xC ((Kd.R_reads' HO_52.out).2.2)); (case side4 => exact (Kd.R_reads' HO_52.out).2.1); rintro e w' ⟨rfl, ⟨nd, rfl⟩⟩; (try exact xD)))
        (try any_goals exact (xU (by assumption)).elim)
        repeat (go_quiet (first | (go_at_call 19; (with_reducible refine (impl_LineSamples.calls kj139 _ _ t475 t476 1 t497 true _ ?side1 ?side2 A169.out).mono ?_); (case side1 => exact xC ((Kd.R_reads' HO_50.out).2.2)); (case side2 => exact (Kd.R_reads' HO_50.out).2.1); rintro e w172 ⟨v499, rfl, ho0, hb⟩; have HO500 := Aside0.mk (Kd.R_lower (Kd.R_new' (Kd.R_new' ho0 (Kd.R_lt (xR HO_50.out))) (Kd.R_lt (xR HO_52.out))) (below_size (xB HB.out))); replace HO_50 := Aside0.mk (Kd.R_elder' (xR HO_50.out) (Kd.R_base ho0) hb); replace HO_52 := Aside0.mk (Kd.R_elder' (xR HO_52.out) (Kd.R_base ho0) hb); replace HB := Aside0.mk (below_step (xB HB.out) hb); (try clear hb); (try clear hb2); (try clear hk); (try clear hi); (try clear ho0); obtain ⟨Ao173, co173, eo173⟩ := Kd.R_slice HO500.out; subst eo173; obtain ⟨Ao174, co174, eo174⟩ := Kd.R_slice HO_52.out; subst eo174) | (go_at_call 21; (with_reducible refine (laws_iSame.calls kj139 _ _ t497 _ _ t479 t501 _ ?side1 ?side2 ?side3 ?side4 A171.out).mono ?_); (case side1 => exact xC ((Kd.R_reads' HO500.out).2.2)); (case side2 => exact (Kd.R_reads' HO500.out).2.1); (case side3 => exact xC ((Kd.R_reads' HO_52.out).2.2)); (case side4 => exact (Kd.R_reads' HO_52.out).2.1); rintro e w' ⟨rfl, ⟨nd, rfl⟩⟩; (try exact xD))); try go_wp2_with (first | (go_at_call 19; (with_reducible refine (impl_LineSamples.calls kj139 _ _ t475 t476 1 t497 true _ ?side1 ?side2 A169.out).mono ?_); (case side1 => exact xC ((Kd.R_reads' HO_50.out).2.2)); (case side2 => exact (Kd.R_reads' HO_50.out).2.1); rintro e w172 ⟨v499, rfl, ho0, hb⟩; have HO500 := Aside0.mk (Kd.R_lower (Kd.R_new' (Kd.R_new' ho0 (Kd.R_lt (xR HO_50.out))) (Kd.R_lt (xR HO_52.out))) (below_size (xB HB.out))); replace HO_50 := Aside0.mk (Kd.R_elder' (xR HO_50.out) (Kd.R_base ho0) hb); replace HO_52 := Aside0.mk (Kd.R_elder' (xR HO_52.out) (Kd.R_base ho0) hb); replace HB := Aside0.mk (below_step (xB HB.out) hb); (try clear hb); (try clear hb2); (try clear hk); (try clear hi); (try clear ho0); obtain ⟨Ao173, co173, eo173⟩ := Kd.R_slice HO500.out; subst eo173; obtain ⟨Ao174, co174, eo174⟩ := Kd.R_slice HO_52.out; subst eo174) | (go_at_call 21; (with_reducible refine (laws_iSame.calls kj139 _ _ t497 _ _ t479 t501 _ ?side1 ?side2 ?side3 ?side4 A171.out).mono ?_); (case side1 => exact xC ((Kd.R_reads' HO500.out).2.2)); (case side2 => exact (Kd.R_reads' HO500.out).2.1); (case side3 => exact xC ((Kd.R_reads' HO_52.out).2.2)); (case side4 => exact (Kd.R_reads' HO_52.out).2.1); rintro e w' ⟨rfl, ⟨nd, rfl⟩⟩; (try exact xD))))
        (try any_goals exact (xU (by assumption)).elim)
        go_ret
        exact ⟨by first | rfl | (simp [errW_none, errW_some] <;> rfl) | (simp [*, errW_none, errW_some] <;> rfl), xB HB.out⟩
/-- THE ONE PURE STATEMENT of laws_FnRatesChanged: yours. -/
def laws_FnRatesChanged.Pure : Prop := ∀ (l0 : List Int) (l1 : List Int), l0.length ≤ maxLen → l0.length * 1 ≤ 140737488351232 → (∀ x ∈ l0, (Lit.int .u8 x).wf = true) → l1.length ≤ maxLen → l1.length * 1 ≤ 140737488351232 → (∀ x ∈ l1, (Lit.int .u8 x).wf = true) → ∃ k, laws_FnRatesChanged.f k l0 l1 = some true
theorem laws_FnRatesChanged.walk (P : laws_FnRatesChanged.Pure) (a0 : Option Addr) (len0 cap0 : Nat) (z0 : List Int) (a1 : Option Addr) (len1 cap1 : Nat) (z1 : List Int) (w : World) (w0 : (a0 = none ∧ len0 = 0 ∧ cap0 = 0 ∧ z0 = []) ∨ ∃ x, a0 = some x ∧ len0 ≤ cap0 ∧ cap0 ≤ maxLen ∧ z0.length = cap0 ∧ (∀ i, i < z0.length → w.cell? (x.add i) = some (.int .u8 (z0.getD i 0))) ∧ ∀ n ∈ z0, (Lit.int .u8 n).wf = true) (y0 : len0 * 1 ≤ 140737488351232) (w1 : (a1 = none ∧ len1 = 0 ∧ cap1 = 0 ∧ z1 = []) ∨ ∃ x, a1 = some x ∧ len1 ≤ cap1 ∧ cap1 ≤ maxLen ∧ z1.length = cap1 ∧ (∀ i, i < z1.length → w.cell? (x.add i) = some (.int .u8 (z1.getD i 0))) ∧ ∀ n ∈ z1, (Lit.int .u8 n).wf = true) (y1 : len1 * 1 ≤ 140737488351232) :
  Calls Try.prog 3 #[.slice a0 len0 cap0, .slice a1 len1 cap1] w fun e w' => e = .returned (.bool true) ∧ Below w.heap.size w w' := by
 obtain ⟨l0, rfl, hr0, hm0, hw0, hc0⟩ := ReadsInt.ofRowC w0
 obtain ⟨l1, rfl, hr1, hm1, hw1, hc1⟩ := ReadsInt.ofRowC w1
 obtain ⟨k, h⟩ := P l0 l1 hm0 y0 hw0 hm1 y1 hw1
 refine (laws_FnRatesChanged.calls k _ _ l0 _ _ l1 true w (Kd.C_of_reads (d := (0 : Int)) (h1 := fun _ => rfl) hr0) hc0 (Kd.C_of_reads (d := (0 : Int)) (h1 := fun _ => rfl) hr1) hc1 h rfl).mono ?_
 rintro e w' ⟨rfl, hd⟩
 exact ⟨rfl, hd⟩

end Go.Proofs.Ytjplcongellcmaa.PFnRatesChanged
