/- What each Go function that the statement FnWeightsMultiply reaches answers, proved call by call. No condition beyond those that the theorems print. (Written by wip/tools/xprint.py of this repo, over the kit's print.) -/
import Derived.Test.YtjplcongellcmaaPFnWeightsMultiplyx0
import Derived.Test.YtjplcongellcmaaPFnWeightsMultiplyx1
import Derived.Test.YtjplcongellcmaaPFnWeightsMultiplyx2
import Derived.Test.YtjplcongellcmaaPFnWeightsMultiplyx3
import Derived.Test.YtjplcongellcmaaPFnWeightsMultiplyx4
import Derived.Test.YtjplcongellcmaaPFnWeightsMultiplyx5
import Derived.Test.YtjplcongellcmaaPFnWeightsMultiplyx6
import Derived.Test.YtjplcongellcmaaPFnWeightsMultiplyx7
import Derived.Test.YtjplcongellcmaaPFnWeightsMultiplyx8
import Derived.Test.YtjplcongellcmaaPFnWeightsMultiplyx9
namespace Go.Proofs.Ytjplcongellcmaa.PFnWeightsMultiply
open Go.RowKit Go.Proofs.YtjplcongellcmaaW.PrintWords Go.Proofs.YtjplcongellcmaaW.PrintLast Go.Proofs.YtjplcongellcmaaW.PrintMore
attribute [local go_sem] max2_int min2_int max_two min_two max_three min_three max_four min_four   -- for this text's walks alone
set_option linter.unusedVariables false
set_option linter.unusedSimpArgs false

/-! ### laws_FnWeightsMultiply: function 6 -/
mutual
def laws_FnWeightsMultiply.j0 : Nat → List Int → List Int → List Int → List Int → Bool → List Int → Bool → Option (Bool)
 | 0, _, _, _, _, _, _, _ => none
 | k + 1, x1, x5, x6, x7, x8, x11, x129 => if x129 = true then (some false) else (if x8 = true then ((impl_GainOf.f k x5).bind fun bt510 => ((impl_SizeGain.f k x5).bind fun bt512 => ((impl_PeakOf.f k x6).bind fun bt514 => ((impl_PeakOf.f k x7).bind fun bt516 => (if bt510.2 = true then ((laws_iSum.f k x7).bind fun t518 => ((laws_iSum.f k x6).bind fun t519 => (if t518 = (wrap64 (bt510.1 * t519)) then (if bt512.2 = true then (if bt514.2 = true then (if bt516.2 = true then (if bt516.1 > (wrap64 (bt512.1 * bt514.1)) then (laws_FnWeightsMultiply.j1 k x1 x5 x6 x7 x8 true) else (if 0 ≤ (x6.length : Int) then (if (x6.length : Int) ≤ (x7.length : Int) then ((laws_iSame.f k (x7.take ((x6.length : Int) : Int).toNat) x11).bind fun t524 => (if t524 = true then (if (x6.length : Int) > 0 then (laws_FnWeightsMultiply.j1 k x1 x5 x6 x7 x8 ((x7.length : Int) != (wrap64 ((wrap64 ((x5.length : Int) + (x6.length : Int))) - 1)))) else (laws_FnWeightsMultiply.j1 k x1 x5 x6 x7 x8 false)) else (laws_FnWeightsMultiply.j1 k x1 x5 x6 x7 x8 true))) else (none)) else (none))) else (laws_FnWeightsMultiply.j1 k x1 x5 x6 x7 x8 true)) else (laws_FnWeightsMultiply.j1 k x1 x5 x6 x7 x8 true)) else (laws_FnWeightsMultiply.j1 k x1 x5 x6 x7 x8 true)) else (laws_FnWeightsMultiply.j1 k x1 x5 x6 x7 x8 true)))) else (laws_FnWeightsMultiply.j1 k x1 x5 x6 x7 x8 true)))))) else (laws_FnWeightsMultiply.j2 k x1 x6 x8))
def laws_FnWeightsMultiply.j2 : Nat → List Int → List Int → Bool → Option (Bool)
 | 0, _, _, _ => none
 | k + 1, x1, x6, x8 => (spec_DrawTimesWeights.f k x1).bind fun bt538 => ((impl_TimesWeights.f k bt538.1 bt538.2).bind fun bt544 => ((spec_TimesWeights.f k bt538.1 bt538.2).bind fun bt548 => ((impl_TimesWeights.f k bt538.2 bt538.1).bind fun bt552 => (if (bt544.2 != bt548.2) = true then (laws_FnWeightsMultiply.j3 k x1 x6 x8 bt538.1 bt538.2 bt544.1 bt544.2 true) else ((laws_iSame.f k bt544.1 bt548.1).bind fun t556 => (if t556 = true then (if (bt552.2 != bt544.2) = true then (laws_FnWeightsMultiply.j3 k x1 x6 x8 bt538.1 bt538.2 bt544.1 bt544.2 true) else ((laws_iSame.f k bt552.1 bt544.1).bind fun t557 => (laws_FnWeightsMultiply.j3 k x1 x6 x8 bt538.1 bt538.2 bt544.1 bt544.2 (!t557)))) else (laws_FnWeightsMultiply.j3 k x1 x6 x8 bt538.1 bt538.2 bt544.1 bt544.2 true)))))))
def laws_FnWeightsMultiply.j3 : Nat → List Int → List Int → Bool → List Int → List Int → List Int → Bool → Bool → Option (Bool)
 | 0, _, _, _, _, _, _, _, _ => none
 | k + 1, x1, x6, x8, x29, x30, x31, x32, x279 => if x279 = true then (some false) else (if x32 = true then ((some (([false, true] : List Bool) : List Bool)).bind fun y558 => (laws_FnWeightsMultiply.l0 k x1 x6 x8 x29 x30 x31 y558 (y558.length : Int) 0)) else (laws_FnWeightsMultiply.j6 k x1))
def laws_FnWeightsMultiply.j6 : Nat → List Int → Option (Bool)
 | 0, _ => none
 | k + 1, x1 => (spec_DrawDivideWeights.f k x1).bind fun bt593 => ((impl_DivideWeights.f k bt593.1 bt593.2).bind fun bt599 => ((spec_DivideWeights.f k bt593.1 bt593.2).bind fun bt603 => (if (bt599.2 != bt603.2) = true then (laws_FnWeightsMultiply.j7 k x1 bt593.1 bt593.2 bt599.1 bt599.2 true) else ((laws_iSame.f k bt599.1 bt603.1).bind fun t607 => (laws_FnWeightsMultiply.j7 k x1 bt593.1 bt593.2 bt599.1 bt599.2 (!t607))))))
def laws_FnWeightsMultiply.j7 : Nat → List Int → List Int → List Int → List Int → Bool → Bool → Option (Bool)
 | 0, _, _, _, _, _, _ => none
 | k + 1, x1, x53, x54, x55, x56, x411 => if x411 = true then (some false) else (if x56 = true then ((impl_TimesWeights.f k x55 x54).bind fun bt608 => (if bt608.2 = true then ((laws_iSame.f k bt608.1 x53).bind fun t612 => (if t612 = true then (laws_FnWeightsMultiply.j8 k x1) else (some false))) else (some false))) else (laws_FnWeightsMultiply.j8 k x1))
def laws_FnWeightsMultiply.j8 : Nat → List Int → Option (Bool)
 | 0, _ => none
 | k + 1, x1 => (spec_DrawPowerWeights.f k x1).bind fun bt613 => ((impl_PowerWeights.f k bt613.1 bt613.2).bind fun bt617 => ((spec_PowerWeights.f k bt613.1 bt613.2).bind fun bt621 => (if (bt617.2 != bt621.2) = true then (laws_FnWeightsMultiply.j9 k bt613.1 bt613.2 bt617.1 bt617.2 true) else ((laws_iSame.f k bt617.1 bt621.1).bind fun t625 => (laws_FnWeightsMultiply.j9 k bt613.1 bt613.2 bt617.1 bt617.2 (!t625))))))
def laws_FnWeightsMultiply.j9 : Nat → List Int → Int → List Int → Bool → Bool → Option (Bool)
 | 0, _, _, _, _, _ => none
 | k + 1, x61, x62, x63, x64, x452 => if x452 = true then (some false) else (if x64 = true then (laws_FnWeightsMultiply.j10 k x61 x62 x63 (decide (x62 > 0))) else (laws_FnWeightsMultiply.j10 k x61 x62 x63 false))
def laws_FnWeightsMultiply.j10 : Nat → List Int → Int → List Int → Bool → Option (Bool)
 | 0, _, _, _, _ => none
 | k + 1, x61, x62, x63, x457 => if x457 = true then ((impl_PowerWeights.f k x61 (wrap64 (x62 - 1))).bind fun bt626 => ((impl_TimesWeights.f k x61 bt626.1).bind fun bt630 => (if bt626.2 = true then (if bt630.2 = true then ((laws_iSame.f k bt630.1 x63).bind fun t634 => (some t634)) else (some false)) else (some false)))) else (some true)
def laws_FnWeightsMultiply.l0 : Nat → List Int → List Int → Bool → List Int → List Int → List Int → List Bool → Int → Int → Option (Bool)
 | 0, _, _, _, _, _, _, _, _, _ => none
 | k + 1, x1, x6, x8, x29, x30, x31, x281, x282, x283 => if x283 < x282 then (if 0 ≤ x283 then (if x283 < (x281.length : Int) then ((impl_GainOf.f k x29).bind fun bt562 => ((impl_GainOf.f k x30).bind fun bt564 => ((impl_GainOf.f k x31).bind fun bt566 => (if rdOf false x281 x283 = true then ((impl_GainAtHalf.f k x29).bind fun bt568 => ((impl_GainAtHalf.f k x30).bind fun bt570 => ((impl_GainAtHalf.f k x31).bind fun bt572 => (if bt568.2 = true then (if bt570.2 = true then (if bt572.2 = true then (if (wrap64 (bt568.1 * bt570.1)) = bt572.1 then (laws_FnWeightsMultiply.l0 k x1 x6 x8 x29 x30 x31 x281 x282 (wrap64 (x283 + 1))) else (some false)) else (some false)) else (some false)) else (some false))))) else (if bt562.2 = true then (if bt564.2 = true then (if bt566.2 = true then (if (wrap64 (bt562.1 * bt564.1)) = bt566.1 then (laws_FnWeightsMultiply.l0 k x1 x6 x8 x29 x30 x31 x281 x282 (wrap64 (x283 + 1))) else (some false)) else (some false)) else (some false)) else (some false)))))) else (none)) else (none)) else (if 0 < (x30.length : Int) then (if (rd x30 0) = 0 then (laws_FnWeightsMultiply.j5 k x1 x6 x8 x29 x30 x31) else ((impl_DivideWeights.f k x31 x30).bind fun bt575 => (if bt575.2 = true then ((laws_iSame.f k bt575.1 x29).bind fun t579 => (if t579 = true then (laws_FnWeightsMultiply.j5 k x1 x6 x8 x29 x30 x31) else (some false))) else (some false)))) else (none))
def laws_FnWeightsMultiply.j5 : Nat → List Int → List Int → Bool → List Int → List Int → List Int → Option (Bool)
 | 0, _, _, _, _, _, _ => none
 | k + 1, x1, x6, x8, x29, x30, x31 => if x8 = true then ((impl_FilterSignal.f k x29 x6).bind fun bt580 => ((impl_FilterSignal.f k x30 bt580.1).bind fun bt584 => ((impl_FilterSignal.f k x31 x6).bind fun bt588 => (if bt580.2 = true then (if bt584.2 = true then (if bt588.2 = true then ((laws_iSame.f k bt584.1 bt588.1).bind fun t592 => (if t592 = true then (laws_FnWeightsMultiply.j6 k x1) else (some false))) else (laws_FnWeightsMultiply.j6 k x1)) else (laws_FnWeightsMultiply.j6 k x1)) else (laws_FnWeightsMultiply.j6 k x1))))) else (laws_FnWeightsMultiply.j6 k x1)
def laws_FnWeightsMultiply.j1 : Nat → List Int → List Int → List Int → List Int → Bool → Bool → Option (Bool)
 | 0, _, _, _, _, _, _ => none
 | k + 1, x1, x5, x6, x7, x8, x205 => if x205 = true then (some false) else ((impl_DelaySignal.f k x6 1).bind fun bt525 => (if bt525.2 = true then ((impl_FilterSignal.f k x5 bt525.1).bind fun bt529 => ((impl_DelaySignal.f k x7 1).bind fun bt533 => (if (x6.length : Int) > 0 then (if (bt529.2 != bt533.2) = true then (some false) else ((laws_iSame.f k bt529.1 bt533.1).bind fun t537 => (if t537 = true then (laws_FnWeightsMultiply.j2 k x1 x6 x8) else (some false)))) else (laws_FnWeightsMultiply.j2 k x1 x6 x8)))) else (laws_FnWeightsMultiply.j2 k x1 x6 x8)))
end
def laws_FnWeightsMultiply.f (k : Nat) (l0 : List Int) (l1 : List Int) : Option (Bool) := (laws_big.f l0 l1).bind fun t485 => (if t485 = true then (some true) else ((spec_DrawFilterSignal.f k l0).bind fun bt486 => ((impl_FilterSignal.f k bt486.1 bt486.2).bind fun bt492 => ((spec_FilterSignal.f k bt486.1 bt486.2).bind fun bt496 => ((impl_FilterShort.f k bt486.1 bt486.2).bind fun bt500 => ((spec_FilterShort.f k bt486.1 bt486.2).bind fun bt504 => (if (bt492.2 != bt496.2) = true then (laws_FnWeightsMultiply.j0 k l1 bt486.1 bt486.2 bt492.1 bt492.2 bt500.1 true) else ((laws_iSame.f k bt492.1 bt496.1).bind fun t508 => (if t508 = true then (if (bt500.2 != bt504.2) = true then (laws_FnWeightsMultiply.j0 k l1 bt486.1 bt486.2 bt492.1 bt492.2 bt500.1 true) else ((laws_iSame.f k bt500.1 bt504.1).bind fun t509 => (if t509 = true then (if bt492.2 = true then (laws_FnWeightsMultiply.j0 k l1 bt486.1 bt486.2 bt492.1 bt492.2 bt500.1 (!bt500.2)) else (laws_FnWeightsMultiply.j0 k l1 bt486.1 bt486.2 bt492.1 bt492.2 bt500.1 false)) else (laws_FnWeightsMultiply.j0 k l1 bt486.1 bt486.2 bt492.1 bt492.2 bt500.1 true)))) else (laws_FnWeightsMultiply.j0 k l1 bt486.1 bt486.2 bt492.1 bt492.2 bt500.1 true))))))))))
theorem laws_FnWeightsMultiply.mono_l : ∀ k, (∀ y0 y1 y2 y3 y4 y5 y6, LeO (laws_FnWeightsMultiply.j0 k y0 y1 y2 y3 y4 y5 y6) (laws_FnWeightsMultiply.j0 (k + 1) y0 y1 y2 y3 y4 y5 y6)) ∧ (∀ y0 y1 y2, LeO (laws_FnWeightsMultiply.j2 k y0 y1 y2) (laws_FnWeightsMultiply.j2 (k + 1) y0 y1 y2)) ∧ (∀ y0 y1 y2 y3 y4 y5 y6 y7, LeO (laws_FnWeightsMultiply.j3 k y0 y1 y2 y3 y4 y5 y6 y7) (laws_FnWeightsMultiply.j3 (k + 1) y0 y1 y2 y3 y4 y5 y6 y7)) ∧ (∀ y0, LeO (laws_FnWeightsMultiply.j6 k y0) (laws_FnWeightsMultiply.j6 (k + 1) y0)) ∧ (∀ y0 y1 y2 y3 y4 y5, LeO (laws_FnWeightsMultiply.j7 k y0 y1 y2 y3 y4 y5) (laws_FnWeightsMultiply.j7 (k + 1) y0 y1 y2 y3 y4 y5)) ∧ (∀ y0, LeO (laws_FnWeightsMultiply.j8 k y0) (laws_FnWeightsMultiply.j8 (k + 1) y0)) ∧ (∀ y0 y1 y2 y3 y4, LeO (laws_FnWeightsMultiply.j9 k y0 y1 y2 y3 y4) (laws_FnWeightsMultiply.j9 (k + 1) y0 y1 y2 y3 y4)) ∧ (∀ y0 y1 y2 y3, LeO (laws_FnWeightsMultiply.j10 k y0 y1 y2 y3) (laws_FnWeightsMultiply.j10 (k + 1) y0 y1 y2 y3)) ∧ (∀ y0 y1 y2 y3 y4 y5 y6 y7 y8, LeO (laws_FnWeightsMultiply.l0 k y0 y1 y2 y3 y4 y5 y6 y7 y8) (laws_FnWeightsMultiply.l0 (k + 1) y0 y1 y2 y3 y4 y5 y6 y7 y8)) ∧ (∀ y0 y1 y2 y3 y4 y5, LeO (laws_FnWeightsMultiply.j5 k y0 y1 y2 y3 y4 y5) (laws_FnWeightsMultiply.j5 (k + 1) y0 y1 y2 y3 y4 y5)) ∧ (∀ y0 y1 y2 y3 y4 y5, LeO (laws_FnWeightsMultiply.j1 k y0 y1 y2 y3 y4 y5) (laws_FnWeightsMultiply.j1 (k + 1) y0 y1 y2 y3 y4 y5))
 | 0 => ⟨fun _ _ _ _ _ _ _ r h => by simp [laws_FnWeightsMultiply.j0] at h, fun _ _ _ r h => by simp [laws_FnWeightsMultiply.j2] at h, fun _ _ _ _ _ _ _ _ r h => by simp [laws_FnWeightsMultiply.j3] at h, fun _ r h => by simp [laws_FnWeightsMultiply.j6] at h, fun _ _ _ _ _ _ r h => by simp [laws_FnWeightsMultiply.j7] at h, fun _ r h => by simp [laws_FnWeightsMultiply.j8] at h, fun _ _ _ _ _ r h => by simp [laws_FnWeightsMultiply.j9] at h, fun _ _ _ _ r h => by simp [laws_FnWeightsMultiply.j10] at h, fun _ _ _ _ _ _ _ _ _ r h => by simp [laws_FnWeightsMultiply.l0] at h, fun _ _ _ _ _ _ r h => by simp [laws_FnWeightsMultiply.j5] at h, fun _ _ _ _ _ _ r h => by simp [laws_FnWeightsMultiply.j1] at h⟩
 | k + 1 => by
  obtain ⟨ih0, ih1, ih2, ih3, ih4, ih5, ih6, ih7, ih8, ih9, ih10⟩ := laws_FnWeightsMultiply.mono_l k
  refine ⟨?_, ?_, ?_, ?_, ?_, ?_, ?_, ?_, ?_, ?_, ?_⟩
  ·intro y0 y1 y2 y3 y4 y5 y6
   unfold laws_FnWeightsMultiply.j0
   repeat' first
   | (with_reducible exact ih0 _ _ _ _ _ _ _)
   | (with_reducible exact ih1 _ _ _)
   | (with_reducible exact ih2 _ _ _ _ _ _ _ _)
   | (with_reducible exact ih3 _)
   | (with_reducible exact ih4 _ _ _ _ _ _)
   | (with_reducible exact ih5 _)
   | (with_reducible exact ih6 _ _ _ _ _)
   | (with_reducible exact ih7 _ _ _ _)
   | (with_reducible exact ih8 _ _ _ _ _ _ _ _ _)
   | (with_reducible exact ih9 _ _ _ _ _ _)
   | (with_reducible exact ih10 _ _ _ _ _ _)
   | (with_reducible exact impl_DelaySignal.mono _ _ _)
   | (with_reducible exact impl_DivideWeights.mono _ _ _)
   | (with_reducible exact impl_FilterShort.mono _ _ _)
   | (with_reducible exact impl_FilterSignal.mono _ _ _)
   | (with_reducible exact impl_GainAtHalf.mono _ _)
   | (with_reducible exact impl_GainOf.mono _ _)
   | (with_reducible exact impl_PeakOf.mono _ _)
   | (with_reducible exact impl_PowerWeights.mono _ _ _)
   | (with_reducible exact impl_SizeGain.mono _ _)
   | (with_reducible exact impl_TimesWeights.mono _ _ _)
   | (with_reducible exact laws_iSame.mono _ _ _)
   | (with_reducible exact laws_iSum.mono _ _)
   | (with_reducible exact spec_DivideWeights.mono _ _ _)
   | (with_reducible exact spec_DrawDivideWeights.mono _ _)
   | (with_reducible exact spec_DrawFilterSignal.mono _ _)
   | (with_reducible exact spec_DrawPowerWeights.mono _ _)
   | (with_reducible exact spec_DrawTimesWeights.mono _ _)
   | (with_reducible exact spec_FilterShort.mono _ _ _)
   | (with_reducible exact spec_FilterSignal.mono _ _ _)
   | (with_reducible exact spec_PowerWeights.mono _ _ _)
   | (with_reducible exact spec_TimesWeights.mono _ _ _)
   | (with_reducible exact LeO.refl _)
   | (with_reducible exact LeO.none _)
   | (with_reducible refine LeO.ite ?_ ?_)
   | (with_reducible refine LeO.bind ?_ (fun _ => ?_))
   | exact ih0 _ _ _ _ _ _ _
   | exact ih1 _ _ _
   | exact ih2 _ _ _ _ _ _ _ _
   | exact ih3 _
   | exact ih4 _ _ _ _ _ _
   | exact ih5 _
   | exact ih6 _ _ _ _ _
   | exact ih7 _ _ _ _
   | exact ih8 _ _ _ _ _ _ _ _ _
   | exact ih9 _ _ _ _ _ _
   | exact ih10 _ _ _ _ _ _
   | exact impl_DelaySignal.mono _ _ _
   | exact impl_DivideWeights.mono _ _ _
   | exact impl_FilterShort.mono _ _ _
   | exact impl_FilterSignal.mono _ _ _
   | exact impl_GainAtHalf.mono _ _
   | exact impl_GainOf.mono _ _
   | exact impl_PeakOf.mono _ _
   | exact impl_PowerWeights.mono _ _ _
   | exact impl_SizeGain.mono _ _
   | exact impl_TimesWeights.mono _ _ _
   | exact laws_iSame.mono _ _ _
   | exact laws_iSum.mono _ _
   | exact spec_DivideWeights.mono _ _ _
   | exact spec_DrawDivideWeights.mono _ _
   | exact spec_DrawFilterSignal.mono _ _
   | exact spec_DrawPowerWeights.mono _ _
   | exact spec_DrawTimesWeights.mono _ _
   | exact spec_FilterShort.mono _ _ _
   | exact spec_FilterSignal.mono _ _ _
   | exact spec_PowerWeights.mono _ _ _
   | exact spec_TimesWeights.mono _ _ _
   | exact LeO.none _
   | refine LeO.ite ?_ ?_
   | refine LeO.bind ?_ (fun _ => ?_)
  ·intro y0 y1 y2
   unfold laws_FnWeightsMultiply.j2
   repeat' first
   | (with_reducible exact ih0 _ _ _ _ _ _ _)
   | (with_reducible exact ih1 _ _ _)
   | (with_reducible exact ih2 _ _ _ _ _ _ _ _)
   | (with_reducible exact ih3 _)
   | (with_reducible exact ih4 _ _ _ _ _ _)
   | (with_reducible exact ih5 _)
   | (with_reducible exact ih6 _ _ _ _ _)
   | (with_reducible exact ih7 _ _ _ _)
   | (with_reducible exact ih8 _ _ _ _ _ _ _ _ _)
   | (with_reducible exact ih9 _ _ _ _ _ _)
   | (with_reducible exact ih10 _ _ _ _ _ _)
   | (with_reducible exact impl_DelaySignal.mono _ _ _)
   | (with_reducible exact impl_DivideWeights.mono _ _ _)
   | (with_reducible exact impl_FilterShort.mono _ _ _)
   | (with_reducible exact impl_FilterSignal.mono _ _ _)
   | (with_reducible exact impl_GainAtHalf.mono _ _)
   | (with_reducible exact impl_GainOf.mono _ _)
   | (with_reducible exact impl_PeakOf.mono _ _)
   | (with_reducible exact impl_PowerWeights.mono _ _ _)
   | (with_reducible exact impl_SizeGain.mono _ _)
   | (with_reducible exact impl_TimesWeights.mono _ _ _)
   | (with_reducible exact laws_iSame.mono _ _ _)
   | (with_reducible exact laws_iSum.mono _ _)
   | (with_reducible exact spec_DivideWeights.mono _ _ _)
   | (with_reducible exact spec_DrawDivideWeights.mono _ _)
   | (with_reducible exact spec_DrawFilterSignal.mono _ _)
   | (with_reducible exact spec_DrawPowerWeights.mono _ _)
   | (with_reducible exact spec_DrawTimesWeights.mono _ _)
   | (with_reducible exact spec_FilterShort.mono _ _ _)
   | (with_reducible exact spec_FilterSignal.mono _ _ _)
   | (with_reducible exact spec_PowerWeights.mono _ _ _)
   | (with_reducible exact spec_TimesWeights.mono _ _ _)
   | (with_reducible exact LeO.refl _)
   | (with_reducible exact LeO.none _)
   | (with_reducible refine LeO.ite ?_ ?_)
   | (with_reducible refine LeO.bind ?_ (fun _ => ?_))
   | exact ih0 _ _ _ _ _ _ _
   | exact ih1 _ _ _
   | exact ih2 _ _ _ _ _ _ _ _
   | exact ih3 _
   | exact ih4 _ _ _ _ _ _
   | exact ih5 _
   | exact ih6 _ _ _ _ _
   | exact ih7 _ _ _ _
   | exact ih8 _ _ _ _ _ _ _ _ _
   | exact ih9 _ _ _ _ _ _
   | exact ih10 _ _ _ _ _ _
   | exact impl_DelaySignal.mono _ _ _
   | exact impl_DivideWeights.mono _ _ _
   | exact impl_FilterShort.mono _ _ _
   | exact impl_FilterSignal.mono _ _ _
   | exact impl_GainAtHalf.mono _ _
   | exact impl_GainOf.mono _ _
   | exact impl_PeakOf.mono _ _
   | exact impl_PowerWeights.mono _ _ _
   | exact impl_SizeGain.mono _ _
   | exact impl_TimesWeights.mono _ _ _
   | exact laws_iSame.mono _ _ _
   | exact laws_iSum.mono _ _
   | exact spec_DivideWeights.mono _ _ _
   | exact spec_DrawDivideWeights.mono _ _
   | exact spec_DrawFilterSignal.mono _ _
   | exact spec_DrawPowerWeights.mono _ _
   | exact spec_DrawTimesWeights.mono _ _
   | exact spec_FilterShort.mono _ _ _
   | exact spec_FilterSignal.mono _ _ _
   | exact spec_PowerWeights.mono _ _ _
   | exact spec_TimesWeights.mono _ _ _
   | exact LeO.none _
   | refine LeO.ite ?_ ?_
   | refine LeO.bind ?_ (fun _ => ?_)
  ·intro y0 y1 y2 y3 y4 y5 y6 y7
   unfold laws_FnWeightsMultiply.j3
   repeat' first
   | (with_reducible exact ih0 _ _ _ _ _ _ _)
   | (with_reducible exact ih1 _ _ _)
   | (with_reducible exact ih2 _ _ _ _ _ _ _ _)
   | (with_reducible exact ih3 _)
   | (with_reducible exact ih4 _ _ _ _ _ _)
   | (with_reducible exact ih5 _)
   | (with_reducible exact ih6 _ _ _ _ _)
   | (with_reducible exact ih7 _ _ _ _)
   | (with_reducible exact ih8 _ _ _ _ _ _ _ _ _)
   | (with_reducible exact ih9 _ _ _ _ _ _)
   | (with_reducible exact ih10 _ _ _ _ _ _)
   | (with_reducible exact impl_DelaySignal.mono _ _ _)
   | (with_reducible exact impl_DivideWeights.mono _ _ _)
   | (with_reducible exact impl_FilterShort.mono _ _ _)
   | (with_reducible exact impl_FilterSignal.mono _ _ _)
   | (with_reducible exact impl_GainAtHalf.mono _ _)
   | (with_reducible exact impl_GainOf.mono _ _)
   | (with_reducible exact impl_PeakOf.mono _ _)
   | (with_reducible exact impl_PowerWeights.mono _ _ _)
   | (with_reducible exact impl_SizeGain.mono _ _)
   | (with_reducible exact impl_TimesWeights.mono _ _ _)
   | (with_reducible exact laws_iSame.mono _ _ _)
   | (with_reducible exact laws_iSum.mono _ _)
   | (with_reducible exact spec_DivideWeights.mono _ _ _)
   | (with_reducible exact spec_DrawDivideWeights.mono _ _)
   | (with_reducible exact spec_DrawFilterSignal.mono _ _)
   | (with_reducible exact spec_DrawPowerWeights.mono _ _)
   | (with_reducible exact spec_DrawTimesWeights.mono _ _)
   | (with_reducible exact spec_FilterShort.mono _ _ _)
   | (with_reducible exact spec_FilterSignal.mono _ _ _)
   | (with_reducible exact spec_PowerWeights.mono _ _ _)
   | (with_reducible exact spec_TimesWeights.mono _ _ _)
   | (with_reducible exact LeO.refl _)
   | (with_reducible exact LeO.none _)
   | (with_reducible refine LeO.ite ?_ ?_)
   | (with_reducible refine LeO.bind ?_ (fun _ => ?_))
   | exact ih0 _ _ _ _ _ _ _
   | exact ih1 _ _ _
   | exact ih2 _ _ _ _ _ _ _ _
   | exact ih3 _
   | exact ih4 _ _ _ _ _ _
   | exact ih5 _
   | exact ih6 _ _ _ _ _
   | exact ih7 _ _ _ _
   | exact ih8 _ _ _ _ _ _ _ _ _
   | exact ih9 _ _ _ _ _ _
   | exact ih10 _ _ _ _ _ _
   | exact impl_DelaySignal.mono _ _ _
   | exact impl_DivideWeights.mono _ _ _
   | exact impl_FilterShort.mono _ _ _
   | exact impl_FilterSignal.mono _ _ _
   | exact impl_GainAtHalf.mono _ _
   | exact impl_GainOf.mono _ _
   | exact impl_PeakOf.mono _ _
   | exact impl_PowerWeights.mono _ _ _
   | exact impl_SizeGain.mono _ _
   | exact impl_TimesWeights.mono _ _ _
   | exact laws_iSame.mono _ _ _
   | exact laws_iSum.mono _ _
   | exact spec_DivideWeights.mono _ _ _
   | exact spec_DrawDivideWeights.mono _ _
   | exact spec_DrawFilterSignal.mono _ _
   | exact spec_DrawPowerWeights.mono _ _
   | exact spec_DrawTimesWeights.mono _ _
   | exact spec_FilterShort.mono _ _ _
   | exact spec_FilterSignal.mono _ _ _
   | exact spec_PowerWeights.mono _ _ _
   | exact spec_TimesWeights.mono _ _ _
   | exact LeO.none _
   | refine LeO.ite ?_ ?_
   | refine LeO.bind ?_ (fun _ => ?_)
  ·intro y0
   unfold laws_FnWeightsMultiply.j6
   repeat' first
   | (with_reducible exact ih0 _ _ _ _ _ _ _)
   | (with_reducible exact ih1 _ _ _)
   | (with_reducible exact ih2 _ _ _ _ _ _ _ _)
   | (with_reducible exact ih3 _)
   | (with_reducible exact ih4 _ _ _ _ _ _)
   | (with_reducible exact ih5 _)
   | (with_reducible exact ih6 _ _ _ _ _)
   | (with_reducible exact ih7 _ _ _ _)
   | (with_reducible exact ih8 _ _ _ _ _ _ _ _ _)
   | (with_reducible exact ih9 _ _ _ _ _ _)
   | (with_reducible exact ih10 _ _ _ _ _ _)
   | (with_reducible exact impl_DelaySignal.mono _ _ _)
   | (with_reducible exact impl_DivideWeights.mono _ _ _)
   | (with_reducible exact impl_FilterShort.mono _ _ _)
   | (with_reducible exact impl_FilterSignal.mono _ _ _)
   | (with_reducible exact impl_GainAtHalf.mono _ _)
   | (with_reducible exact impl_GainOf.mono _ _)
   | (with_reducible exact impl_PeakOf.mono _ _)
   | (with_reducible exact impl_PowerWeights.mono _ _ _)
   | (with_reducible exact impl_SizeGain.mono _ _)
   | (with_reducible exact impl_TimesWeights.mono _ _ _)
   | (with_reducible exact laws_iSame.mono _ _ _)
   | (with_reducible exact laws_iSum.mono _ _)
   | (with_reducible exact spec_DivideWeights.mono _ _ _)
   | (with_reducible exact spec_DrawDivideWeights.mono _ _)
   | (with_reducible exact spec_DrawFilterSignal.mono _ _)
   | (with_reducible exact spec_DrawPowerWeights.mono _ _)
   | (with_reducible exact spec_DrawTimesWeights.mono _ _)
   | (with_reducible exact spec_FilterShort.mono _ _ _)
   | (with_reducible exact spec_FilterSignal.mono _ _ _)
   | (with_reducible exact spec_PowerWeights.mono _ _ _)
   | (with_reducible exact spec_TimesWeights.mono _ _ _)
   | (with_reducible exact LeO.refl _)
   | (with_reducible exact LeO.none _)
   | (with_reducible refine LeO.ite ?_ ?_)
   | (with_reducible refine LeO.bind ?_ (fun _ => ?_))
   | exact ih0 _ _ _ _ _ _ _
   | exact ih1 _ _ _
   | exact ih2 _ _ _ _ _ _ _ _
   | exact ih3 _
   | exact ih4 _ _ _ _ _ _
   | exact ih5 _
   | exact ih6 _ _ _ _ _
   | exact ih7 _ _ _ _
   | exact ih8 _ _ _ _ _ _ _ _ _
   | exact ih9 _ _ _ _ _ _
   | exact ih10 _ _ _ _ _ _
   | exact impl_DelaySignal.mono _ _ _
   | exact impl_DivideWeights.mono _ _ _
   | exact impl_FilterShort.mono _ _ _
   | exact impl_FilterSignal.mono _ _ _
   | exact impl_GainAtHalf.mono _ _
   | exact impl_GainOf.mono _ _
   | exact impl_PeakOf.mono _ _
   | exact impl_PowerWeights.mono _ _ _
   | exact impl_SizeGain.mono _ _
   | exact impl_TimesWeights.mono _ _ _
   | exact laws_iSame.mono _ _ _
   | exact laws_iSum.mono _ _
   | exact spec_DivideWeights.mono _ _ _
   | exact spec_DrawDivideWeights.mono _ _
   | exact spec_DrawFilterSignal.mono _ _
   | exact spec_DrawPowerWeights.mono _ _
   | exact spec_DrawTimesWeights.mono _ _
   | exact spec_FilterShort.mono _ _ _
   | exact spec_FilterSignal.mono _ _ _
   | exact spec_PowerWeights.mono _ _ _
   | exact spec_TimesWeights.mono _ _ _
   | exact LeO.none _
   | refine LeO.ite ?_ ?_
   | refine LeO.bind ?_ (fun _ => ?_)
  ·intro y0 y1 y2 y3 y4 y5
   unfold laws_FnWeightsMultiply.j7
   repeat' first
   | (with_reducible exact ih0 _ _ _ _ _ _ _)
   | (with_reducible exact ih1 _ _ _)
   | (with_reducible exact ih2 _ _ _ _ _ _ _ _)
   | (with_reducible exact ih3 _)
   | (with_reducible exact ih4 _ _ _ _ _ _)
   | (with_reducible exact ih5 _)
   | (with_reducible exact ih6 _ _ _ _ _)
   | (with_reducible exact ih7 _ _ _ _)
   | (with_reducible exact ih8 _ _ _ _ _ _ _ _ _)
   | (with_reducible exact ih9 _ _ _ _ _ _)
   | (with_reducible exact ih10 _ _ _ _ _ _)
   | (with_reducible exact impl_DelaySignal.mono _ _ _)
   | (with_reducible exact impl_DivideWeights.mono _ _ _)
   | (with_reducible exact impl_FilterShort.mono _ _ _)
   | (with_reducible exact impl_FilterSignal.mono _ _ _)
   | (with_reducible exact impl_GainAtHalf.mono _ _)
   | (with_reducible exact impl_GainOf.mono _ _)
   | (with_reducible exact impl_PeakOf.mono _ _)
   | (with_reducible exact impl_PowerWeights.mono _ _ _)
   | (with_reducible exact impl_SizeGain.mono _ _)
   | (with_reducible exact impl_TimesWeights.mono _ _ _)
   | (with_reducible exact laws_iSame.mono _ _ _)
   | (with_reducible exact laws_iSum.mono _ _)
   | (with_reducible exact spec_DivideWeights.mono _ _ _)
   | (with_reducible exact spec_DrawDivideWeights.mono _ _)
   | (with_reducible exact spec_DrawFilterSignal.mono _ _)
   | (with_reducible exact spec_DrawPowerWeights.mono _ _)
   | (with_reducible exact spec_DrawTimesWeights.mono _ _)
   | (with_reducible exact spec_FilterShort.mono _ _ _)
   | (with_reducible exact spec_FilterSignal.mono _ _ _)
   | (with_reducible exact spec_PowerWeights.mono _ _ _)
   | (with_reducible exact spec_TimesWeights.mono _ _ _)
   | (with_reducible exact LeO.refl _)
   | (with_reducible exact LeO.none _)
   | (with_reducible refine LeO.ite ?_ ?_)
   | (with_reducible refine LeO.bind ?_ (fun _ => ?_))
   | exact ih0 _ _ _ _ _ _ _
   | exact ih1 _ _ _
   | exact ih2 _ _ _ _ _ _ _ _
   | exact ih3 _
   | exact ih4 _ _ _ _ _ _
   | exact ih5 _
   | exact ih6 _ _ _ _ _
   | exact ih7 _ _ _ _
   | exact ih8 _ _ _ _ _ _ _ _ _
   | exact ih9 _ _ _ _ _ _
   | exact ih10 _ _ _ _ _ _
   | exact impl_DelaySignal.mono _ _ _
   | exact impl_DivideWeights.mono _ _ _
   | exact impl_FilterShort.mono _ _ _
   | exact impl_FilterSignal.mono _ _ _
   | exact impl_GainAtHalf.mono _ _
   | exact impl_GainOf.mono _ _
   | exact impl_PeakOf.mono _ _
   | exact impl_PowerWeights.mono _ _ _
   | exact impl_SizeGain.mono _ _
   | exact impl_TimesWeights.mono _ _ _
   | exact laws_iSame.mono _ _ _
   | exact laws_iSum.mono _ _
   | exact spec_DivideWeights.mono _ _ _
   | exact spec_DrawDivideWeights.mono _ _
   | exact spec_DrawFilterSignal.mono _ _
   | exact spec_DrawPowerWeights.mono _ _
   | exact spec_DrawTimesWeights.mono _ _
   | exact spec_FilterShort.mono _ _ _
   | exact spec_FilterSignal.mono _ _ _
   | exact spec_PowerWeights.mono _ _ _
   | exact spec_TimesWeights.mono _ _ _
   | exact LeO.none _
   | refine LeO.ite ?_ ?_
   | refine LeO.bind ?_ (fun _ => ?_)
  ·intro y0
   unfold laws_FnWeightsMultiply.j8
   repeat' first
   | (with_reducible exact ih0 _ _ _ _ _ _ _)
   | (with_reducible exact ih1 _ _ _)
   | (with_reducible exact ih2 _ _ _ _ _ _ _ _)
   | (with_reducible exact ih3 _)
   | (with_reducible exact ih4 _ _ _ _ _ _)
   | (with_reducible exact ih5 _)
   | (with_reducible exact ih6 _ _ _ _ _)
   | (with_reducible exact ih7 _ _ _ _)
   | (with_reducible exact ih8 _ _ _ _ _ _ _ _ _)
   | (with_reducible exact ih9 _ _ _ _ _ _)
   | (with_reducible exact ih10 _ _ _ _ _ _)
   | (with_reducible exact impl_DelaySignal.mono _ _ _)
   | (with_reducible exact impl_DivideWeights.mono _ _ _)
   | (with_reducible exact impl_FilterShort.mono _ _ _)
   | (with_reducible exact impl_FilterSignal.mono _ _ _)
   | (with_reducible exact impl_GainAtHalf.mono _ _)
   | (with_reducible exact impl_GainOf.mono _ _)
   | (with_reducible exact impl_PeakOf.mono _ _)
   | (with_reducible exact impl_PowerWeights.mono _ _ _)
   | (with_reducible exact impl_SizeGain.mono _ _)
   | (with_reducible exact impl_TimesWeights.mono _ _ _)
   | (with_reducible exact laws_iSame.mono _ _ _)
   | (with_reducible exact laws_iSum.mono _ _)
   | (with_reducible exact spec_DivideWeights.mono _ _ _)
   | (with_reducible exact spec_DrawDivideWeights.mono _ _)
   | (with_reducible exact spec_DrawFilterSignal.mono _ _)
   | (with_reducible exact spec_DrawPowerWeights.mono _ _)
   | (with_reducible exact spec_DrawTimesWeights.mono _ _)
   | (with_reducible exact spec_FilterShort.mono _ _ _)
   | (with_reducible exact spec_FilterSignal.mono _ _ _)
   | (with_reducible exact spec_PowerWeights.mono _ _ _)
   | (with_reducible exact spec_TimesWeights.mono _ _ _)
   | (with_reducible exact LeO.refl _)
   | (with_reducible exact LeO.none _)
   | (with_reducible refine LeO.ite ?_ ?_)
   | (with_reducible refine LeO.bind ?_ (fun _ => ?_))
   | exact ih0 _ _ _ _ _ _ _
   | exact ih1 _ _ _
   | exact ih2 _ _ _ _ _ _ _ _
   | exact ih3 _
   | exact ih4 _ _ _ _ _ _
   | exact ih5 _
   | exact ih6 _ _ _ _ _
   | exact ih7 _ _ _ _
   | exact ih8 _ _ _ _ _ _ _ _ _
   | exact ih9 _ _ _ _ _ _
   | exact ih10 _ _ _ _ _ _
   | exact impl_DelaySignal.mono _ _ _
   | exact impl_DivideWeights.mono _ _ _
   | exact impl_FilterShort.mono _ _ _
   | exact impl_FilterSignal.mono _ _ _
   | exact impl_GainAtHalf.mono _ _
   | exact impl_GainOf.mono _ _
   | exact impl_PeakOf.mono _ _
   | exact impl_PowerWeights.mono _ _ _
   | exact impl_SizeGain.mono _ _
   | exact impl_TimesWeights.mono _ _ _
   | exact laws_iSame.mono _ _ _
   | exact laws_iSum.mono _ _
   | exact spec_DivideWeights.mono _ _ _
   | exact spec_DrawDivideWeights.mono _ _
   | exact spec_DrawFilterSignal.mono _ _
   | exact spec_DrawPowerWeights.mono _ _
   | exact spec_DrawTimesWeights.mono _ _
   | exact spec_FilterShort.mono _ _ _
   | exact spec_FilterSignal.mono _ _ _
   | exact spec_PowerWeights.mono _ _ _
   | exact spec_TimesWeights.mono _ _ _
   | exact LeO.none _
   | refine LeO.ite ?_ ?_
   | refine LeO.bind ?_ (fun _ => ?_)
  ·intro y0 y1 y2 y3 y4
   unfold laws_FnWeightsMultiply.j9
   repeat' first
   | (with_reducible exact ih0 _ _ _ _ _ _ _)
   | (with_reducible exact ih1 _ _ _)
   | (with_reducible exact ih2 _ _ _ _ _ _ _ _)
   | (with_reducible exact ih3 _)
   | (with_reducible exact ih4 _ _ _ _ _ _)
   | (with_reducible exact ih5 _)
   | (with_reducible exact ih6 _ _ _ _ _)
   | (with_reducible exact ih7 _ _ _ _)
   | (with_reducible exact ih8 _ _ _ _ _ _ _ _ _)
   | (with_reducible exact ih9 _ _ _ _ _ _)
   | (with_reducible exact ih10 _ _ _ _ _ _)
   | (with_reducible exact impl_DelaySignal.mono _ _ _)
   | (with_reducible exact impl_DivideWeights.mono _ _ _)
   | (with_reducible exact impl_FilterShort.mono _ _ _)
   | (with_reducible exact impl_FilterSignal.mono _ _ _)
   | (with_reducible exact impl_GainAtHalf.mono _ _)
   | (with_reducible exact impl_GainOf.mono _ _)
   | (with_reducible exact impl_PeakOf.mono _ _)
   | (with_reducible exact impl_PowerWeights.mono _ _ _)
   | (with_reducible exact impl_SizeGain.mono _ _)
   | (with_reducible exact impl_TimesWeights.mono _ _ _)
   | (with_reducible exact laws_iSame.mono _ _ _)
   | (with_reducible exact laws_iSum.mono _ _)
   | (with_reducible exact spec_DivideWeights.mono _ _ _)
   | (with_reducible exact spec_DrawDivideWeights.mono _ _)
   | (with_reducible exact spec_DrawFilterSignal.mono _ _)
   | (with_reducible exact spec_DrawPowerWeights.mono _ _)
   | (with_reducible exact spec_DrawTimesWeights.mono _ _)
   | (with_reducible exact spec_FilterShort.mono _ _ _)
   | (with_reducible exact spec_FilterSignal.mono _ _ _)
   | (with_reducible exact spec_PowerWeights.mono _ _ _)
   | (with_reducible exact spec_TimesWeights.mono _ _ _)
   | (with_reducible exact LeO.refl _)
   | (with_reducible exact LeO.none _)
   | (with_reducible refine LeO.ite ?_ ?_)
   | (with_reducible refine LeO.bind ?_ (fun _ => ?_))
   | exact ih0 _ _ _ _ _ _ _
   | exact ih1 _ _ _
   | exact ih2 _ _ _ _ _ _ _ _
   | exact ih3 _
   | exact ih4 _ _ _ _ _ _
   | exact ih5 _
   | exact ih6 _ _ _ _ _
   | exact ih7 _ _ _ _
   | exact ih8 _ _ _ _ _ _ _ _ _
   | exact ih9 _ _ _ _ _ _
   | exact ih10 _ _ _ _ _ _
   | exact impl_DelaySignal.mono _ _ _
   | exact impl_DivideWeights.mono _ _ _
   | exact impl_FilterShort.mono _ _ _
   | exact impl_FilterSignal.mono _ _ _
   | exact impl_GainAtHalf.mono _ _
   | exact impl_GainOf.mono _ _
   | exact impl_PeakOf.mono _ _
   | exact impl_PowerWeights.mono _ _ _
   | exact impl_SizeGain.mono _ _
   | exact impl_TimesWeights.mono _ _ _
   | exact laws_iSame.mono _ _ _
   | exact laws_iSum.mono _ _
   | exact spec_DivideWeights.mono _ _ _
   | exact spec_DrawDivideWeights.mono _ _
   | exact spec_DrawFilterSignal.mono _ _
   | exact spec_DrawPowerWeights.mono _ _
   | exact spec_DrawTimesWeights.mono _ _
   | exact spec_FilterShort.mono _ _ _
   | exact spec_FilterSignal.mono _ _ _
   | exact spec_PowerWeights.mono _ _ _
   | exact spec_TimesWeights.mono _ _ _
   | exact LeO.none _
   | refine LeO.ite ?_ ?_
   | refine LeO.bind ?_ (fun _ => ?_)
  ·intro y0 y1 y2 y3
   unfold laws_FnWeightsMultiply.j10
   repeat' first
   | (with_reducible exact ih0 _ _ _ _ _ _ _)
   | (with_reducible exact ih1 _ _ _)
   | (with_reducible exact ih2 _ _ _ _ _ _ _ _)
   | (with_reducible exact ih3 _)
   | (with_reducible exact ih4 _ _ _ _ _ _)
   | (with_reducible exact ih5 _)
   | (with_reducible exact ih6 _ _ _ _ _)
   | (with_reducible exact ih7 _ _ _ _)
   | (with_reducible exact ih8 _ _ _ _ _ _ _ _ _)
   | (with_reducible exact ih9 _ _ _ _ _ _)
   | (with_reducible exact ih10 _ _ _ _ _ _)
   | (with_reducible exact impl_DelaySignal.mono _ _ _)
   | (with_reducible exact impl_DivideWeights.mono _ _ _)
   | (with_reducible exact impl_FilterShort.mono _ _ _)
   | (with_reducible exact impl_FilterSignal.mono _ _ _)
   | (with_reducible exact impl_GainAtHalf.mono _ _)
   | (with_reducible exact impl_GainOf.mono _ _)
   | (with_reducible exact impl_PeakOf.mono _ _)
   | (with_reducible exact impl_PowerWeights.mono _ _ _)
   | (with_reducible exact impl_SizeGain.mono _ _)
   | (with_reducible exact impl_TimesWeights.mono _ _ _)
   | (with_reducible exact laws_iSame.mono _ _ _)
   | (with_reducible exact laws_iSum.mono _ _)
   | (with_reducible exact spec_DivideWeights.mono _ _ _)
   | (with_reducible exact spec_DrawDivideWeights.mono _ _)
   | (with_reducible exact spec_DrawFilterSignal.mono _ _)
   | (with_reducible exact spec_DrawPowerWeights.mono _ _)
   | (with_reducible exact spec_DrawTimesWeights.mono _ _)
   | (with_reducible exact spec_FilterShort.mono _ _ _)
   | (with_reducible exact spec_FilterSignal.mono _ _ _)
   | (with_reducible exact spec_PowerWeights.mono _ _ _)
   | (with_reducible exact spec_TimesWeights.mono _ _ _)
   | (with_reducible exact LeO.refl _)
   | (with_reducible exact LeO.none _)
   | (with_reducible refine LeO.ite ?_ ?_)
   | (with_reducible refine LeO.bind ?_ (fun _ => ?_))
   | exact ih0 _ _ _ _ _ _ _
   | exact ih1 _ _ _
   | exact ih2 _ _ _ _ _ _ _ _
   | exact ih3 _
   | exact ih4 _ _ _ _ _ _
   | exact ih5 _
   | exact ih6 _ _ _ _ _
   | exact ih7 _ _ _ _
   | exact ih8 _ _ _ _ _ _ _ _ _
   | exact ih9 _ _ _ _ _ _
   | exact ih10 _ _ _ _ _ _
   | exact impl_DelaySignal.mono _ _ _
   | exact impl_DivideWeights.mono _ _ _
   | exact impl_FilterShort.mono _ _ _
   | exact impl_FilterSignal.mono _ _ _
   | exact impl_GainAtHalf.mono _ _
   | exact impl_GainOf.mono _ _
   | exact impl_PeakOf.mono _ _
   | exact impl_PowerWeights.mono _ _ _
   | exact impl_SizeGain.mono _ _
   | exact impl_TimesWeights.mono _ _ _
   | exact laws_iSame.mono _ _ _
   | exact laws_iSum.mono _ _
   | exact spec_DivideWeights.mono _ _ _
   | exact spec_DrawDivideWeights.mono _ _
   | exact spec_DrawFilterSignal.mono _ _
   | exact spec_DrawPowerWeights.mono _ _
   | exact spec_DrawTimesWeights.mono _ _
   | exact spec_FilterShort.mono _ _ _
   | exact spec_FilterSignal.mono _ _ _
   | exact spec_PowerWeights.mono _ _ _
   | exact spec_TimesWeights.mono _ _ _
   | exact LeO.none _
   | refine LeO.ite ?_ ?_
   | refine LeO.bind ?_ (fun _ => ?_)
  ·intro y0 y1 y2 y3 y4 y5 y6 y7 y8
   unfold laws_FnWeightsMultiply.l0
   repeat' first
   | (with_reducible exact ih0 _ _ _ _ _ _ _)
   | (with_reducible exact ih1 _ _ _)
   | (with_reducible exact ih2 _ _ _ _ _ _ _ _)
   | (with_reducible exact ih3 _)
   | (with_reducible exact ih4 _ _ _ _ _ _)
   | (with_reducible exact ih5 _)
   | (with_reducible exact ih6 _ _ _ _ _)
   | (with_reducible exact ih7 _ _ _ _)
   | (with_reducible exact ih8 _ _ _ _ _ _ _ _ _)
   | (with_reducible exact ih9 _ _ _ _ _ _)
   | (with_reducible exact ih10 _ _ _ _ _ _)
   | (with_reducible exact impl_DelaySignal.mono _ _ _)
   | (with_reducible exact impl_DivideWeights.mono _ _ _)
   | (with_reducible exact impl_FilterShort.mono _ _ _)
   | (with_reducible exact impl_FilterSignal.mono _ _ _)
   | (with_reducible exact impl_GainAtHalf.mono _ _)
   | (with_reducible exact impl_GainOf.mono _ _)
   | (with_reducible exact impl_PeakOf.mono _ _)
   | (with_reducible exact impl_PowerWeights.mono _ _ _)
   | (with_reducible exact impl_SizeGain.mono _ _)
   | (with_reducible exact impl_TimesWeights.mono _ _ _)
   | (with_reducible exact laws_iSame.mono _ _ _)
   | (with_reducible exact laws_iSum.mono _ _)
   | (with_reducible exact spec_DivideWeights.mono _ _ _)
   | (with_reducible exact spec_DrawDivideWeights.mono _ _)
   | (with_reducible exact spec_DrawFilterSignal.mono _ _)
   | (with_reducible exact spec_DrawPowerWeights.mono _ _)
   | (with_reducible exact spec_DrawTimesWeights.mono _ _)
   | (with_reducible exact spec_FilterShort.mono _ _ _)
   | (with_reducible exact spec_FilterSignal.mono _ _ _)
   | (with_reducible exact spec_PowerWeights.mono _ _ _)
   | (with_reducible exact spec_TimesWeights.mono _ _ _)
   | (with_reducible exact LeO.refl _)
   | (with_reducible exact LeO.none _)
   | (with_reducible refine LeO.ite ?_ ?_)
   | (with_reducible refine LeO.bind ?_ (fun _ => ?_))
   | exact ih0 _ _ _ _ _ _ _
   | exact ih1 _ _ _
   | exact ih2 _ _ _ _ _ _ _ _
   | exact ih3 _
   | exact ih4 _ _ _ _ _ _
   | exact ih5 _
   | exact ih6 _ _ _ _ _
   | exact ih7 _ _ _ _
   | exact ih8 _ _ _ _ _ _ _ _ _
   | exact ih9 _ _ _ _ _ _
   | exact ih10 _ _ _ _ _ _
   | exact impl_DelaySignal.mono _ _ _
   | exact impl_DivideWeights.mono _ _ _
   | exact impl_FilterShort.mono _ _ _
   | exact impl_FilterSignal.mono _ _ _
   | exact impl_GainAtHalf.mono _ _
   | exact impl_GainOf.mono _ _
   | exact impl_PeakOf.mono _ _
   | exact impl_PowerWeights.mono _ _ _
   | exact impl_SizeGain.mono _ _
   | exact impl_TimesWeights.mono _ _ _
   | exact laws_iSame.mono _ _ _
   | exact laws_iSum.mono _ _
   | exact spec_DivideWeights.mono _ _ _
   | exact spec_DrawDivideWeights.mono _ _
   | exact spec_DrawFilterSignal.mono _ _
   | exact spec_DrawPowerWeights.mono _ _
   | exact spec_DrawTimesWeights.mono _ _
   | exact spec_FilterShort.mono _ _ _
   | exact spec_FilterSignal.mono _ _ _
   | exact spec_PowerWeights.mono _ _ _
   | exact spec_TimesWeights.mono _ _ _
   | exact LeO.none _
   | refine LeO.ite ?_ ?_
   | refine LeO.bind ?_ (fun _ => ?_)
  ·intro y0 y1 y2 y3 y4 y5
   unfold laws_FnWeightsMultiply.j5
   repeat' first
   | (with_reducible exact ih0 _ _ _ _ _ _ _)
   | (with_reducible exact ih1 _ _ _)
   | (with_reducible exact ih2 _ _ _ _ _ _ _ _)
   | (with_reducible exact ih3 _)
   | (with_reducible exact ih4 _ _ _ _ _ _)
   | (with_reducible exact ih5 _)
   | (with_reducible exact ih6 _ _ _ _ _)
   | (with_reducible exact ih7 _ _ _ _)
   | (with_reducible exact ih8 _ _ _ _ _ _ _ _ _)
   | (with_reducible exact ih9 _ _ _ _ _ _)
   | (with_reducible exact ih10 _ _ _ _ _ _)
   | (with_reducible exact impl_DelaySignal.mono _ _ _)
   | (with_reducible exact impl_DivideWeights.mono _ _ _)
   | (with_reducible exact impl_FilterShort.mono _ _ _)
   | (with_reducible exact impl_FilterSignal.mono _ _ _)
   | (with_reducible exact impl_GainAtHalf.mono _ _)
   | (with_reducible exact impl_GainOf.mono _ _)
   | (with_reducible exact impl_PeakOf.mono _ _)
   | (with_reducible exact impl_PowerWeights.mono _ _ _)
   | (with_reducible exact impl_SizeGain.mono _ _)
   | (with_reducible exact impl_TimesWeights.mono _ _ _)
   | (with_reducible exact laws_iSame.mono _ _ _)
   | (with_reducible exact laws_iSum.mono _ _)
   | (with_reducible exact spec_DivideWeights.mono _ _ _)
   | (with_reducible exact spec_DrawDivideWeights.mono _ _)
   | (with_reducible exact spec_DrawFilterSignal.mono _ _)
   | (with_reducible exact spec_DrawPowerWeights.mono _ _)
   | (with_reducible exact spec_DrawTimesWeights.mono _ _)
   | (with_reducible exact spec_FilterShort.mono _ _ _)
   | (with_reducible exact spec_FilterSignal.mono _ _ _)
   | (with_reducible exact spec_PowerWeights.mono _ _ _)
   | (with_reducible exact spec_TimesWeights.mono _ _ _)
   | (with_reducible exact LeO.refl _)
   | (with_reducible exact LeO.none _)
   | (with_reducible refine LeO.ite ?_ ?_)
   | (with_reducible refine LeO.bind ?_ (fun _ => ?_))
   | exact ih0 _ _ _ _ _ _ _
   | exact ih1 _ _ _
   | exact ih2 _ _ _ _ _ _ _ _
   | exact ih3 _
   | exact ih4 _ _ _ _ _ _
   | exact ih5 _
   | exact ih6 _ _ _ _ _
   | exact ih7 _ _ _ _
   | exact ih8 _ _ _ _ _ _ _ _ _
   | exact ih9 _ _ _ _ _ _
   | exact ih10 _ _ _ _ _ _
   | exact impl_DelaySignal.mono _ _ _
   | exact impl_DivideWeights.mono _ _ _
   | exact impl_FilterShort.mono _ _ _
   | exact impl_FilterSignal.mono _ _ _
   | exact impl_GainAtHalf.mono _ _
   | exact impl_GainOf.mono _ _
   | exact impl_PeakOf.mono _ _
   | exact impl_PowerWeights.mono _ _ _
   | exact impl_SizeGain.mono _ _
   | exact impl_TimesWeights.mono _ _ _
   | exact laws_iSame.mono _ _ _
   | exact laws_iSum.mono _ _
   | exact spec_DivideWeights.mono _ _ _
   | exact spec_DrawDivideWeights.mono _ _
   | exact spec_DrawFilterSignal.mono _ _
   | exact spec_DrawPowerWeights.mono _ _
   | exact spec_DrawTimesWeights.mono _ _
   | exact spec_FilterShort.mono _ _ _
   | exact spec_FilterSignal.mono _ _ _
   | exact spec_PowerWeights.mono _ _ _
   | exact spec_TimesWeights.mono _ _ _
   | exact LeO.none _
   | refine LeO.ite ?_ ?_
   | refine LeO.bind ?_ (fun _ => ?_)
  ·intro y0 y1 y2 y3 y4 y5
   unfold laws_FnWeightsMultiply.j1
   repeat' first
   | (with_reducible exact ih0 _ _ _ _ _ _ _)
   | (with_reducible exact ih1 _ _ _)
   | (with_reducible exact ih2 _ _ _ _ _ _ _ _)
   | (with_reducible exact ih3 _)
   | (with_reducible exact ih4 _ _ _ _ _ _)
   | (with_reducible exact ih5 _)
   | (with_reducible exact ih6 _ _ _ _ _)
   | (with_reducible exact ih7 _ _ _ _)
   | (with_reducible exact ih8 _ _ _ _ _ _ _ _ _)
   | (with_reducible exact ih9 _ _ _ _ _ _)
   | (with_reducible exact ih10 _ _ _ _ _ _)
   | (with_reducible exact impl_DelaySignal.mono _ _ _)
   | (with_reducible exact impl_DivideWeights.mono _ _ _)
   | (with_reducible exact impl_FilterShort.mono _ _ _)
   | (with_reducible exact impl_FilterSignal.mono _ _ _)
   | (with_reducible exact impl_GainAtHalf.mono _ _)
   | (with_reducible exact impl_GainOf.mono _ _)
   | (with_reducible exact impl_PeakOf.mono _ _)
   | (with_reducible exact impl_PowerWeights.mono _ _ _)
   | (with_reducible exact impl_SizeGain.mono _ _)
   | (with_reducible exact impl_TimesWeights.mono _ _ _)
   | (with_reducible exact laws_iSame.mono _ _ _)
   | (with_reducible exact laws_iSum.mono _ _)
   | (with_reducible exact spec_DivideWeights.mono _ _ _)
   | (with_reducible exact spec_DrawDivideWeights.mono _ _)
   | (with_reducible exact spec_DrawFilterSignal.mono _ _)
   | (with_reducible exact spec_DrawPowerWeights.mono _ _)
   | (with_reducible exact spec_DrawTimesWeights.mono _ _)
   | (with_reducible exact spec_FilterShort.mono _ _ _)
   | (with_reducible exact spec_FilterSignal.mono _ _ _)
   | (with_reducible exact spec_PowerWeights.mono _ _ _)
   | (with_reducible exact spec_TimesWeights.mono _ _ _)
   | (with_reducible exact LeO.refl _)
   | (with_reducible exact LeO.none _)
   | (with_reducible refine LeO.ite ?_ ?_)
   | (with_reducible refine LeO.bind ?_ (fun _ => ?_))
   | exact ih0 _ _ _ _ _ _ _
   | exact ih1 _ _ _
   | exact ih2 _ _ _ _ _ _ _ _
   | exact ih3 _
   | exact ih4 _ _ _ _ _ _
   | exact ih5 _
   | exact ih6 _ _ _ _ _
   | exact ih7 _ _ _ _
   | exact ih8 _ _ _ _ _ _ _ _ _
   | exact ih9 _ _ _ _ _ _
   | exact ih10 _ _ _ _ _ _
   | exact impl_DelaySignal.mono _ _ _
   | exact impl_DivideWeights.mono _ _ _
   | exact impl_FilterShort.mono _ _ _
   | exact impl_FilterSignal.mono _ _ _
   | exact impl_GainAtHalf.mono _ _
   | exact impl_GainOf.mono _ _
   | exact impl_PeakOf.mono _ _
   | exact impl_PowerWeights.mono _ _ _
   | exact impl_SizeGain.mono _ _
   | exact impl_TimesWeights.mono _ _ _
   | exact laws_iSame.mono _ _ _
   | exact laws_iSum.mono _ _
   | exact spec_DivideWeights.mono _ _ _
   | exact spec_DrawDivideWeights.mono _ _
   | exact spec_DrawFilterSignal.mono _ _
   | exact spec_DrawPowerWeights.mono _ _
   | exact spec_DrawTimesWeights.mono _ _
   | exact spec_FilterShort.mono _ _ _
   | exact spec_FilterSignal.mono _ _ _
   | exact spec_PowerWeights.mono _ _ _
   | exact spec_TimesWeights.mono _ _ _
   | exact LeO.none _
   | refine LeO.ite ?_ ?_
   | refine LeO.bind ?_ (fun _ => ?_)
theorem laws_FnWeightsMultiply.mono : ∀ a0 a1 k, LeO (laws_FnWeightsMultiply.f k a0 a1) (laws_FnWeightsMultiply.f (k + 1) a0 a1) := by
 intro a0 a1 k
 obtain ⟨ih0, ih1, ih2, ih3, ih4, ih5, ih6, ih7, ih8, ih9, ih10⟩ := laws_FnWeightsMultiply.mono_l k
 unfold laws_FnWeightsMultiply.f
 repeat' first
   | (with_reducible exact ih0 _ _ _ _ _ _ _)
   | (with_reducible exact ih1 _ _ _)
   | (with_reducible exact ih2 _ _ _ _ _ _ _ _)
   | (with_reducible exact ih3 _)
   | (with_reducible exact ih4 _ _ _ _ _ _)
   | (with_reducible exact ih5 _)
   | (with_reducible exact ih6 _ _ _ _ _)
   | (with_reducible exact ih7 _ _ _ _)
   | (with_reducible exact ih8 _ _ _ _ _ _ _ _ _)
   | (with_reducible exact ih9 _ _ _ _ _ _)
   | (with_reducible exact ih10 _ _ _ _ _ _)
   | (with_reducible exact impl_DelaySignal.mono _ _ _)
   | (with_reducible exact impl_DivideWeights.mono _ _ _)
   | (with_reducible exact impl_FilterShort.mono _ _ _)
   | (with_reducible exact impl_FilterSignal.mono _ _ _)
   | (with_reducible exact impl_GainAtHalf.mono _ _)
   | (with_reducible exact impl_GainOf.mono _ _)
   | (with_reducible exact impl_PeakOf.mono _ _)
   | (with_reducible exact impl_PowerWeights.mono _ _ _)
   | (with_reducible exact impl_SizeGain.mono _ _)
   | (with_reducible exact impl_TimesWeights.mono _ _ _)
   | (with_reducible exact laws_iSame.mono _ _ _)
   | (with_reducible exact laws_iSum.mono _ _)
   | (with_reducible exact spec_DivideWeights.mono _ _ _)
   | (with_reducible exact spec_DrawDivideWeights.mono _ _)
   | (with_reducible exact spec_DrawFilterSignal.mono _ _)
   | (with_reducible exact spec_DrawPowerWeights.mono _ _)
   | (with_reducible exact spec_DrawTimesWeights.mono _ _)
   | (with_reducible exact spec_FilterShort.mono _ _ _)
   | (with_reducible exact spec_FilterSignal.mono _ _ _)
   | (with_reducible exact spec_PowerWeights.mono _ _ _)
   | (with_reducible exact spec_TimesWeights.mono _ _ _)
   | (with_reducible exact LeO.refl _)
   | (with_reducible exact LeO.none _)
   | (with_reducible refine LeO.ite ?_ ?_)
   | (with_reducible refine LeO.bind ?_ (fun _ => ?_))
   | exact ih0 _ _ _ _ _ _ _
   | exact ih1 _ _ _
   | exact ih2 _ _ _ _ _ _ _ _
   | exact ih3 _
   | exact ih4 _ _ _ _ _ _
   | exact ih5 _
   | exact ih6 _ _ _ _ _
   | exact ih7 _ _ _ _
   | exact ih8 _ _ _ _ _ _ _ _ _
   | exact ih9 _ _ _ _ _ _
   | exact ih10 _ _ _ _ _ _
   | exact impl_DelaySignal.mono _ _ _
   | exact impl_DivideWeights.mono _ _ _
   | exact impl_FilterShort.mono _ _ _
   | exact impl_FilterSignal.mono _ _ _
   | exact impl_GainAtHalf.mono _ _
   | exact impl_GainOf.mono _ _
   | exact impl_PeakOf.mono _ _
   | exact impl_PowerWeights.mono _ _ _
   | exact impl_SizeGain.mono _ _
   | exact impl_TimesWeights.mono _ _ _
   | exact laws_iSame.mono _ _ _
   | exact laws_iSum.mono _ _
   | exact spec_DivideWeights.mono _ _ _
   | exact spec_DrawDivideWeights.mono _ _
   | exact spec_DrawFilterSignal.mono _ _
   | exact spec_DrawPowerWeights.mono _ _
   | exact spec_DrawTimesWeights.mono _ _
   | exact spec_FilterShort.mono _ _ _
   | exact spec_FilterSignal.mono _ _ _
   | exact spec_PowerWeights.mono _ _ _
   | exact spec_TimesWeights.mono _ _ _
   | exact LeO.none _
   | refine LeO.ite ?_ ?_
   | refine LeO.bind ?_ (fun _ => ?_)
set_option maxHeartbeats 200000000 in
set_option maxRecDepth 100000 in
theorem laws_FnWeightsMultiply.calls (k : Nat) (A0 : Option Addr) (c0 : Nat) (l0 : List Int) (A1 : Option Addr) (c1 : Nat) (l1 : List Int) (r : Bool) (w : World) (hr0 : Kd.C (Kd.int .u8) w A0 l0.length l0) (hc0 : l0.length ≤ c0) (hr1 : Kd.C (Kd.int .u8) w A1 l1.length l1) (hc1 : l1.length ≤ c1) (h : laws_FnWeightsMultiply.f k l0 l1 = some r) (hr_ : r = true) :
  Calls Try.prog 6 #[.slice A0 l0.length c0, .slice A1 l1.length c1] w fun e w' => e = .returned (.bool r) ∧ Below w.heap.size w w' := by
 have HRT := Aside0.mk hr_
 clear hr_
 have HR0 := Aside0.mk hr0
 have HC0 := Aside0.mk hc0
 clear hr0 hc0
 have HR1 := Aside0.mk hr1
 have HC1 := Aside0.mk hc1
 clear hr1 hc1
 have HB := Aside0.mk (Below.refl w.heap.size w)
 have H : ((laws_big.f l0 l1).bind fun t485 => (if t485 = true then (some true) else ((spec_DrawFilterSignal.f k l0).bind fun bt486 => ((impl_FilterSignal.f k bt486.1 bt486.2).bind fun bt492 => ((spec_FilterSignal.f k bt486.1 bt486.2).bind fun bt496 => ((impl_FilterShort.f k bt486.1 bt486.2).bind fun bt500 => ((spec_FilterShort.f k bt486.1 bt486.2).bind fun bt504 => (if (bt492.2 != bt496.2) = true then (laws_FnWeightsMultiply.j0 k l1 bt486.1 bt486.2 bt492.1 bt492.2 bt500.1 true) else ((laws_iSame.f k bt492.1 bt496.1).bind fun t508 => (if t508 = true then (if (bt500.2 != bt504.2) = true then (laws_FnWeightsMultiply.j0 k l1 bt486.1 bt486.2 bt492.1 bt492.2 bt500.1 true) else ((laws_iSame.f k bt500.1 bt504.1).bind fun t509 => (if t509 = true then (if bt492.2 = true then (laws_FnWeightsMultiply.j0 k l1 bt486.1 bt486.2 bt492.1 bt492.2 bt500.1 (!bt500.2)) else (laws_FnWeightsMultiply.j0 k l1 bt486.1 bt486.2 bt492.1 bt492.2 bt500.1 false)) else (laws_FnWeightsMultiply.j0 k l1 bt486.1 bt486.2 bt492.1 bt492.2 bt500.1 true)))) else (laws_FnWeightsMultiply.j0 k l1 bt486.1 bt486.2 bt492.1 bt492.2 bt500.1 true))))))))))) = some r := h
 clear h
 replace H := Option.bind_eq_some_iff.mp H
 obtain ⟨t485, A30, H⟩ := H
 (try dsimp only at H)
 have A3 := Aside0.mk A30
 clear A30
 by_cases c4 : t485 = true
 ·as_aux_lemma =>
   subst c4
   have H1 := H
   rw [if_pos rfl] at H1
   clear H
   have H := H1
   clear H1
   obtain rfl := Option.some.inj H
   go_enter Try.func6, Try.ntmps6
   go_wp2_with (first | ((with_reducible refine gate_callee (f := 13) rfl ?_); refine goesL_ (some 73) rfl rfl Try.func13 (by kernel_rfl) rfl #[.slice A0 l0.length c0, .slice A1 l1.length c1] rfl (by (try simp only [List.map_toArray, List.map_cons, List.map_nil]); first | done | rfl | (simp only [List.length_drop, List.length_take]; rfl)) ?_; (with_reducible refine (laws_big.calls _ _ l0 _ _ l1 true _ ?side1 ?side2 ?side3 ?side4 A3.out).mono ?_); (case side1 => exact xC HR0.out); (case side2 => exact HC0.out); (case side3 => exact xC HR1.out); (case side4 => exact HC1.out); rintro e w' ⟨rfl, ⟨nd, rfl⟩⟩; refine ⟨_, rfl, ?_⟩))
   go_ret
   exact ⟨by first | rfl | (simp [errW_none, errW_some] <;> rfl) | (simp [*, errW_none, errW_some] <;> rfl), xB HB.out⟩
 replace c4 := Bool.eq_false_iff.mpr c4
 subst c4
 have H1 := H
 rw [if_neg (show ¬ (false = true) by decide)] at H1
 clear H
 have H := H1
 clear H1
 replace H := Option.bind_eq_some_iff.mp H
 obtain ⟨⟨t486, t487⟩, A50, H⟩ := H
 (try dsimp only at H)
 have A5 := Aside0.mk A50
 clear A50
 replace H := Option.bind_eq_some_iff.mp H
 obtain ⟨⟨t492, t493⟩, A60, H⟩ := H
 (try dsimp only at H)
 have A6 := Aside0.mk A60
 clear A60
 replace H := Option.bind_eq_some_iff.mp H
 obtain ⟨⟨t496, t497⟩, A70, H⟩ := H
 (try dsimp only at H)
 have A7 := Aside0.mk A70
 clear A70
 replace H := Option.bind_eq_some_iff.mp H
 obtain ⟨⟨t500, t501⟩, A80, H⟩ := H
 (try dsimp only at H)
 have A8 := Aside0.mk A80
 clear A80
 replace H := Option.bind_eq_some_iff.mp H
 obtain ⟨⟨t504, t505⟩, A90, H⟩ := H
 (try dsimp only at H)
 have A9 := Aside0.mk A90
 clear A90
 have HC10 := Aside0.mk H
 clear H
 go_enter Try.func6, Try.ntmps6
 go_upto_region 8 with (first | ((with_reducible refine gate_callee (f := 13) rfl ?_); refine goesL_ (some 73) rfl rfl Try.func13 (by kernel_rfl) rfl #[.slice A0 l0.length c0, .slice A1 l1.length c1] rfl (by (try simp only [List.map_toArray, List.map_cons, List.map_nil]); first | done | rfl | (simp only [List.length_drop, List.length_take]; rfl)) ?_; (with_reducible refine (laws_big.calls _ _ l0 _ _ l1 false _ ?side1 ?side2 ?side3 ?side4 A3.out).mono ?_); (case side1 => exact xC HR0.out); (case side2 => exact HC0.out); (case side3 => exact xC HR1.out); (case side4 => exact HC1.out); rintro e w' ⟨rfl, ⟨nd, rfl⟩⟩; refine ⟨_, rfl, ?_⟩) | ((with_reducible refine gate_callee (f := 68) rfl ?_); refine goesL_ (some 76) rfl rfl Try.func68 (by kernel_rfl) rfl #[.slice A0 l0.length c0] rfl (by (try simp only [List.map_toArray, List.map_cons, List.map_nil]); first | done | rfl | (simp only [List.length_drop, List.length_take]; rfl)) ?_; (with_reducible refine (spec_DrawFilterSignal.calls k _ _ l0 t486 t487 _ ?side1 ?side2 A5.out).mono ?_); (case side1 => exact xC HR0.out); (case side2 => exact HC0.out); rintro e w11 ⟨v488, v490, rfl, ho0, ho1, hb⟩; refine ⟨_, rfl, ?_⟩; have n0_ := Aside0.mk (Kd.R_lower ho0 (below_size (xB HB.out))); have n1_ := Aside0.mk (Kd.R_lower ho1 (below_size (xB HB.out))); have n2_ := Aside0.mk (below_step (xB HB.out) hb); clear HB; have HO489 := n0_; have HO491 := n1_; have HB := n2_; clear n0_ n1_ n2_; (try clear hb); (try clear hb2); (try clear hk); (try clear hi); (try clear ho0); (try clear ho1); obtain ⟨Ao12, co12, eo12⟩ := Kd.R_slice HO489.out; subst eo12; obtain ⟨Ao13, co13, eo13⟩ := Kd.R_slice HO491.out; subst eo13) | ((with_reducible refine gate_callee (f := 69) rfl ?_); refine goesL_ (some 82) rfl rfl Try.func69 (by kernel_rfl) rfl #[.slice Ao12 t486.length co12, .slice Ao13 t487.length co13] rfl (by (try simp only [List.map_toArray, List.map_cons, List.map_nil]); first | done | rfl | (simp only [List.length_drop, List.length_take]; rfl)) ?_; (with_reducible refine (impl_FilterSignal.calls k _ _ t486 _ _ t487 t492 t493 _ ?side1 ?side2 ?side3 ?side4 A6.out).mono ?_); (case side1 => exact xC ((Kd.R_reads' HO489.out).2.2)); (case side2 => exact (Kd.R_reads' HO489.out).2.1); (case side3 => exact xC ((Kd.R_reads' HO491.out).2.2)); (case side4 => exact (Kd.R_reads' HO491.out).2.1); rintro e w14 ⟨v494, rfl, ho0, hb⟩; refine ⟨_, rfl, ?_⟩; have n0_ := Aside0.mk (Kd.R_elder' (xR HO489.out) (Kd.R_base ho0) hb); have n1_ := Aside0.mk (Kd.R_elder' (xR HO491.out) (Kd.R_base ho0) hb); have n2_ := Aside0.mk (Kd.R_lower (Kd.R_new' (Kd.R_new' ho0 (Kd.R_lt (xR HO489.out))) (Kd.R_lt (xR HO491.out))) (below_size (xB HB.out))); have n3_ := Aside0.mk (below_step (xB HB.out) hb); clear HO489; clear HO491; clear HB; have HO489 := n0_; have HO491 := n1_; have HO495 := n2_; have HB := n3_; clear n0_ n1_ n2_ n3_; (try clear hb); (try clear hb2); (try clear hk); (try clear hi); (try clear ho0)) | ((with_reducible refine gate_callee (f := 70) rfl ?_); refine goesL_ (some 88) rfl rfl Try.func70 (by kernel_rfl) rfl #[.slice Ao12 t486.length co12, .slice Ao13 t487.length co13] rfl (by (try simp only [List.map_toArray, List.map_cons, List.map_nil]); first | done | rfl | (simp only [List.length_drop, List.length_take]; rfl)) ?_; (with_reducible refine (spec_FilterSignal.calls k _ _ t486 _ _ t487 t496 t497 _ ?side1 ?side2 ?side3 ?side4 A7.out).mono ?_); (case side1 => exact xC ((Kd.R_reads' HO489.out).2.2)); (case side2 => exact (Kd.R_reads' HO489.out).2.1); (case side3 => exact xC ((Kd.R_reads' HO491.out).2.2)); (case side4 => exact (Kd.R_reads' HO491.out).2.1); rintro e w15 ⟨v498, rfl, ho0, hb⟩; refine ⟨_, rfl, ?_⟩; have n0_ := Aside0.mk (Kd.R_elder' (xR HO489.out) (Kd.R_base ho0) hb); have n1_ := Aside0.mk (Kd.R_elder' (xR HO491.out) (Kd.R_base ho0) hb); have n2_ := Aside0.mk (Kd.R_elder' (xR HO495.out) (Kd.R_base ho0) hb); have n3_ := Aside0.mk (Kd.R_lower (Kd.R_new' (Kd.R_new' (Kd.R_new' ho0 (Kd.R_lt (xR HO489.out))) (Kd.R_lt (xR HO491.out))) (Kd.R_lt (xR HO495.out))) (below_size (xB HB.out))); have n4_ := Aside0.mk (below_step (xB HB.out) hb); clear HO489; clear HO491; clear HO495; clear HB; have HO489 := n0_; have HO491 := n1_; have HO495 := n2_; have HO499 := n3_; have HB := n4_; clear n0_ n1_ n2_ n3_ n4_; (try clear hb); (try clear hb2); (try clear hk); (try clear hi); (try clear ho0)) | ((with_reducible refine gate_callee (f := 59) rfl ?_); refine goesL_ (some 94) rfl rfl Try.func59 (by kernel_rfl) rfl #[.slice Ao12 t486.length co12, .slice Ao13 t487.length co13] rfl (by (try simp only [List.map_toArray, List.map_cons, List.map_nil]); first | done | rfl | (simp only [List.length_drop, List.length_take]; rfl)) ?_; (with_reducible refine (impl_FilterShort.calls k _ _ t486 _ _ t487 t500 t501 _ ?side1 ?side2 ?side3 ?side4 A8.out).mono ?_); (case side1 => exact xC ((Kd.R_reads' HO489.out).2.2)); (case side2 => exact (Kd.R_reads' HO489.out).2.1); (case side3 => exact xC ((Kd.R_reads' HO491.out).2.2)); (case side4 => exact (Kd.R_reads' HO491.out).2.1); rintro e w16 ⟨v502, rfl, ho0, hb⟩; refine ⟨_, rfl, ?_⟩; have n0_ := Aside0.mk (Kd.R_elder' (xR HO489.out) (Kd.R_base ho0) hb); have n1_ := Aside0.mk (Kd.R_elder' (xR HO491.out) (Kd.R_base ho0) hb); have n2_ := Aside0.mk (Kd.R_elder' (xR HO495.out) (Kd.R_base ho0) hb); have n3_ := Aside0.mk (Kd.R_elder' (xR HO499.out) (Kd.R_base ho0) hb); have n4_ := Aside0.mk (Kd.R_lower (Kd.R_new' (Kd.R_new' (Kd.R_new' (Kd.R_new' ho0 (Kd.R_lt (xR HO489.out))) (Kd.R_lt (xR HO491.out))) (Kd.R_lt (xR HO495.out))) (Kd.R_lt (xR HO499.out))) (below_size (xB HB.out))); have n5_ := Aside0.mk (below_step (xB HB.out) hb); clear HO489; clear HO491; clear HO495; clear HO499; clear HB; have HO489 := n0_; have HO491 := n1_; have HO495 := n2_; have HO499 := n3_; have HO503 := n4_; have HB := n5_; clear n0_ n1_ n2_ n3_ n4_ n5_; (try clear hb); (try clear hb2); (try clear hk); (try clear hi); (try clear ho0)) | ((with_reducible refine gate_callee (f := 71) rfl ?_); refine goesL_ (some 100) rfl rfl Try.func71 (by kernel_rfl) rfl #[.slice Ao12 t486.length co12, .slice Ao13 t487.length co13] rfl (by (try simp only [List.map_toArray, List.map_cons, List.map_nil]); first | done | rfl | (simp only [List.length_drop, List.length_take]; rfl)) ?_; (with_reducible refine (spec_FilterShort.calls k _ _ t486 _ _ t487 t504 t505 _ ?side1 ?side2 ?side3 ?side4 A9.out).mono ?_); (case side1 => exact xC ((Kd.R_reads' HO489.out).2.2)); (case side2 => exact (Kd.R_reads' HO489.out).2.1); (case side3 => exact xC ((Kd.R_reads' HO491.out).2.2)); (case side4 => exact (Kd.R_reads' HO491.out).2.1); rintro e w17 ⟨v506, rfl, ho0, hb⟩; refine ⟨_, rfl, ?_⟩; have n0_ := Aside0.mk (Kd.R_elder' (xR HO489.out) (Kd.R_base ho0) hb); have n1_ := Aside0.mk (Kd.R_elder' (xR HO491.out) (Kd.R_base ho0) hb); have n2_ := Aside0.mk (Kd.R_elder' (xR HO495.out) (Kd.R_base ho0) hb); have n3_ := Aside0.mk (Kd.R_elder' (xR HO499.out) (Kd.R_base ho0) hb); have n4_ := Aside0.mk (Kd.R_elder' (xR HO503.out) (Kd.R_base ho0) hb); have n5_ := Aside0.mk (Kd.R_lower (Kd.R_new' (Kd.R_new' (Kd.R_new' (Kd.R_new' (Kd.R_new' ho0 (Kd.R_lt (xR HO489.out))) (Kd.R_lt (xR HO491.out))) (Kd.R_lt (xR HO495.out))) (Kd.R_lt (xR HO499.out))) (Kd.R_lt (xR HO503.out))) (below_size (xB HB.out))); have n6_ := Aside0.mk (below_step (xB HB.out) hb); clear HO489; clear HO491; clear HO495; clear HO499; clear HO503; clear HB; have HO489 := n0_; have HO491 := n1_; have HO495 := n2_; have HO499 := n3_; have HO503 := n4_; have HO507 := n5_; have HB := n6_; clear n0_ n1_ n2_ n3_ n4_ n5_ n6_; (try clear hb); (try clear hb2); (try clear hk); (try clear hi); (try clear ho0)))
 (try simp only [Act.put, List.setIfInBounds_toArray, List.set_cons_zero, List.set_cons_succ])
 go_cut [129] (fun v129 wc => ∃ (kq : Nat) (x129_9 : Bool), v129 = .bool x129_9 ∧ Aside0 (laws_FnWeightsMultiply.j0 kq l1 t486 t487 t492 t493 t500 x129_9 = some r) ∧ Aside0 (kq ≤ k) ∧ Aside0 (Kd.R (Kd.int .i64) 3 wc w.heap.size (fun k_ => some k_ ≠ ((.slice Ao13 t487.length co13) : Value).ownBlock ∧ some k_ ≠ (v494 : Value).ownBlock ∧ some k_ ≠ (v502 : Value).ownBlock) (.slice Ao12 t486.length co12) t486) ∧ Aside0 (Kd.R (Kd.int .i64) 3 wc w.heap.size (fun k_ => some k_ ≠ ((.slice Ao12 t486.length co12) : Value).ownBlock ∧ some k_ ≠ (v494 : Value).ownBlock ∧ some k_ ≠ (v502 : Value).ownBlock) (.slice Ao13 t487.length co13) t487) ∧ Aside0 (Kd.R (Kd.int .i64) 3 wc w.heap.size (fun k_ => some k_ ≠ ((.slice Ao12 t486.length co12) : Value).ownBlock ∧ some k_ ≠ ((.slice Ao13 t487.length co13) : Value).ownBlock ∧ some k_ ≠ (v502 : Value).ownBlock) v494 t492) ∧ Aside0 (Kd.R (Kd.int .i64) 3 wc w.heap.size (fun k_ => some k_ ≠ ((.slice Ao12 t486.length co12) : Value).ownBlock ∧ some k_ ≠ ((.slice Ao13 t487.length co13) : Value).ownBlock ∧ some k_ ≠ (v494 : Value).ownBlock) v502 t500) ∧ Aside0 (Below w.heap.size w wc))
 case first => as_aux_lemma =>
  have H := HC10.out
  clear HC10
  by_cases c18 : (t493 != t497) = true
  ·as_aux_lemma =>
    rw [if_pos c18] at H
    have c18b0 : (t493 != t497) = true := c18
    (try (have c18b1 : decide (t493 = t497) = false := by simpa using c18))
    (try (have c18b2 : (t493 == t497) = false := by simpa using c18))
    (try (have c18b3 : ¬ (t493 = t497) := by simpa using c18))
    clear c18
    (first | rw [c18b0] | (simp only [i64_w, i32_w]; rw [c18b0]) | skip)
    exact absurd H (by have hr_ := HRT.out; cases k <;> simp [laws_FnWeightsMultiply.j0, hr_])
  rw [if_neg c18] at H
  have c18b0 : (t493 != t497) = false := by simpa using c18
  (try (have c18b1 : decide (t493 = t497) = true := by simpa using c18))
  (try (have c18b2 : (t493 == t497) = true := by simpa using c18))
  clear c18
  (first | rw [c18b0] | (simp only [i64_w, i32_w]; rw [c18b0]) | skip)
  replace H := Option.bind_eq_some_iff.mp H
  obtain ⟨t508, A190, H⟩ := H
  (try dsimp only at H)
  have A19 := Aside0.mk A190
  clear A190
  by_cases c20 : t508 = true
  rotate_left
  ·as_aux_lemma =>
    replace c20 := Bool.eq_false_iff.mpr c20
    subst c20
    have H1 := H
    rw [if_neg (show ¬ (false = true) by decide)] at H1
    clear H
    have H := H1
    clear H1
    exact absurd H (by have hr_ := HRT.out; cases k <;> simp [laws_FnWeightsMultiply.j0, hr_])
  subst c20
  have H1 := H
  rw [if_pos rfl] at H1
  clear H
  have H := H1
  clear H1
  by_cases c21 : (t501 != t505) = true
  ·as_aux_lemma =>
    rw [if_pos c21] at H
    have c21b0 : (t501 != t505) = true := c21
    (try (have c21b1 : decide (t501 = t505) = false := by simpa using c21))
    (try (have c21b2 : (t501 == t505) = false := by simpa using c21))
    (try (have c21b3 : ¬ (t501 = t505) := by simpa using c21))
    clear c21
    exact absurd H (by have hr_ := HRT.out; cases k <;> simp [laws_FnWeightsMultiply.j0, hr_])
  as_aux_lemma =>
   rw [if_neg c21] at H
   have c21b0 : (t501 != t505) = false := by simpa using c21
   (try (have c21b1 : decide (t501 = t505) = true := by simpa using c21))
   (try (have c21b2 : (t501 == t505) = true := by simpa using c21))
   clear c21
   replace H := Option.bind_eq_some_iff.mp H
   obtain ⟨t509, A220, H⟩ := H
   (try dsimp only at H)
   have A22 := Aside0.mk A220
   clear A220
   by_cases c23 : t509 = true
   rotate_left
   ·replace c23 := Bool.eq_false_iff.mpr c23
    subst c23
    have H1 := H
    rw [if_neg (show ¬ (false = true) by decide)] at H1
    clear H
    have H := H1
    clear H1
    exact absurd H (by have hr_ := HRT.out; cases k <;> simp [laws_FnWeightsMultiply.j0, hr_])
   subst c23
   have H1 := H
   rw [if_pos rfl] at H1
   clear H
   have H := H1
   clear H1
   by_cases c24 : t493 = true
   ·as_aux_lemma =>
      subst c24
      have H1 := H
      rw [if_pos rfl] at H1
      clear H
      have H := H1
      clear H1
      have H' := Aside0.mk H
      clear H
      obtain ⟨Ao25, co25, eo25⟩ := Kd.R_slice HO495.out
      subst eo25
      obtain ⟨Ao26, co26, eo26⟩ := Kd.R_slice HO499.out
      subst eo26
      go_wp2_with (first | (go_at_call 21; (with_reducible refine (laws_iSame.calls k _ _ t492 _ _ t496 true _ ?side1 ?side2 ?side3 ?side4 A19.out).mono ?_); (case side1 => exact xC ((Kd.R_reads' HO495.out).2.2)); (case side2 => exact (Kd.R_reads' HO495.out).2.1); (case side3 => exact xC ((Kd.R_reads' HO499.out).2.2)); (case side4 => exact (Kd.R_reads' HO499.out).2.1); rintro e w' ⟨rfl, ⟨nd, rfl⟩⟩; obtain ⟨Ao27, co27, eo27⟩ := Kd.R_slice HO503.out; subst eo27; obtain ⟨Ao28, co28, eo28⟩ := Kd.R_slice HO507.out; subst eo28) | (go_at_call 21; (with_reducible refine (laws_iSame.calls k _ _ t500 _ _ t504 true _ ?side1 ?side2 ?side3 ?side4 A22.out).mono ?_); (case side1 => exact xC ((Kd.R_reads' HO503.out).2.2)); (case side2 => exact (Kd.R_reads' HO503.out).2.1); (case side3 => exact xC ((Kd.R_reads' HO507.out).2.2)); (case side4 => exact (Kd.R_reads' HO507.out).2.1); rintro e w' ⟨rfl, ⟨nd, rfl⟩⟩))
      go_meet
      case rel => exact ⟨_, (!t501), (by first | rfl | (simp; done) | (simp [*]; done)), H', ⟨by first | omega | exact Nat.le_refl _⟩, ⟨by (with_reducible repeat (first | apply Kd.R_alloc | apply Kd.R_drewN | apply Kd.R_drew)); exact Kd.R_mono HO489.out (fun _ hk => ⟨hk.1.1.1.1, ⟨hk.1.1.1.2, hk.1.2⟩⟩)⟩, ⟨by (with_reducible repeat (first | apply Kd.R_alloc | apply Kd.R_drewN | apply Kd.R_drew)); exact Kd.R_mono HO491.out (fun _ hk => ⟨hk.1.1.1.1, ⟨hk.1.1.1.2, hk.1.2⟩⟩)⟩, ⟨by (with_reducible repeat (first | apply Kd.R_alloc | apply Kd.R_drewN | apply Kd.R_drew)); exact Kd.R_mono HO495.out (fun _ hk => ⟨hk.1.1.1.1.2, ⟨hk.1.1.1.2, hk.1.2⟩⟩)⟩, ⟨by (with_reducible repeat (first | apply Kd.R_alloc | apply Kd.R_drewN | apply Kd.R_drew)); exact Kd.R_mono HO503.out (fun _ hk => ⟨hk.1.1.1.1.2, ⟨hk.1.1.1.2, hk.1.1.2⟩⟩)⟩, ⟨xB HB.out⟩⟩
   replace c24 := Bool.eq_false_iff.mpr c24
   subst c24
   have H1 := H
   rw [if_neg (show ¬ (false = true) by decide)] at H1
   clear H
   have H := H1
   clear H1
   have H' := Aside0.mk H
   clear H
   obtain ⟨Ao29, co29, eo29⟩ := Kd.R_slice HO495.out
   subst eo29
   obtain ⟨Ao30, co30, eo30⟩ := Kd.R_slice HO499.out
   subst eo30
   go_wp2_with (first | (go_at_call 21; (with_reducible refine (laws_iSame.calls k _ _ t492 _ _ t496 true _ ?side1 ?side2 ?side3 ?side4 A19.out).mono ?_); (case side1 => exact xC ((Kd.R_reads' HO495.out).2.2)); (case side2 => exact (Kd.R_reads' HO495.out).2.1); (case side3 => exact xC ((Kd.R_reads' HO499.out).2.2)); (case side4 => exact (Kd.R_reads' HO499.out).2.1); rintro e w' ⟨rfl, ⟨nd, rfl⟩⟩; obtain ⟨Ao31, co31, eo31⟩ := Kd.R_slice HO503.out; subst eo31; obtain ⟨Ao32, co32, eo32⟩ := Kd.R_slice HO507.out; subst eo32) | (go_at_call 21; (with_reducible refine (laws_iSame.calls k _ _ t500 _ _ t504 true _ ?side1 ?side2 ?side3 ?side4 A22.out).mono ?_); (case side1 => exact xC ((Kd.R_reads' HO503.out).2.2)); (case side2 => exact (Kd.R_reads' HO503.out).2.1); (case side3 => exact xC ((Kd.R_reads' HO507.out).2.2)); (case side4 => exact (Kd.R_reads' HO507.out).2.1); rintro e w' ⟨rfl, ⟨nd, rfl⟩⟩))
   go_meet
   case rel => exact ⟨_, (false), (by first | rfl | (simp; done) | (simp [*]; done)), H', ⟨by first | omega | exact Nat.le_refl _⟩, ⟨by (with_reducible repeat (first | apply Kd.R_alloc | apply Kd.R_drewN | apply Kd.R_drew)); exact Kd.R_mono HO489.out (fun _ hk => ⟨hk.1.1.1.1, ⟨hk.1.1.1.2, hk.1.2⟩⟩)⟩, ⟨by (with_reducible repeat (first | apply Kd.R_alloc | apply Kd.R_drewN | apply Kd.R_drew)); exact Kd.R_mono HO491.out (fun _ hk => ⟨hk.1.1.1.1, ⟨hk.1.1.1.2, hk.1.2⟩⟩)⟩, ⟨by (with_reducible repeat (first | apply Kd.R_alloc | apply Kd.R_drewN | apply Kd.R_drew)); exact Kd.R_mono HO495.out (fun _ hk => ⟨hk.1.1.1.1.2, ⟨hk.1.1.1.2, hk.1.2⟩⟩)⟩, ⟨by (with_reducible repeat (first | apply Kd.R_alloc | apply Kd.R_drewN | apply Kd.R_drew)); exact Kd.R_mono HO503.out (fun _ hk => ⟨hk.1.1.1.1.2, ⟨hk.1.1.1.2, hk.1.1.2⟩⟩)⟩, ⟨xB HB.out⟩⟩
 case rest => as_aux_lemma =>
  clear HC10
  try clear c1
  try clear c4
  obtain ⟨kq, x129_9, rfl, HA, HJ9, HO_5, HO_6, HO_7, HO_11, HB⟩ := hcut
  cases kq with
  | zero => exact absurd HA.out (by simp [laws_FnWeightsMultiply.j0])
  | succ kj9 =>
   have H := HA.out
   clear HA
   simp only [laws_FnWeightsMultiply.j0] at H
   by_cases c33 : x129_9 = true
   ·as_aux_lemma =>
     subst c33
     have H1 := H
     rw [if_pos rfl] at H1
     clear H
     have H := H1
     clear H1
     exact absurd ((Option.some.inj H).trans HRT.out) (by decide)
   replace c33 := Bool.eq_false_iff.mpr c33
   subst c33
   have H1 := H
   rw [if_neg (show ¬ (false = true) by decide)] at H1
   clear H
   have H := H1
   clear H1
   have HC34 := Aside0.mk H
   clear H
   go_upto_if 130 with (fail)
   go_cut [] (fun wc => ∃ (kq : Nat), Aside0 (laws_FnWeightsMultiply.j2 kq l1 t487 t493 = some r) ∧ Aside0 (kq ≤ kj9) ∧ Aside0 (Kd.R (Kd.int .i64) 3 wc w.heap.size (fun _ => True) (.slice Ao13 t487.length co13) t487) ∧ Aside0 (Below w.heap.size w wc))
   case first => as_aux_lemma =>
    have H := HC34.out
    clear HC34
    by_cases c35 : t493 = true
    rotate_left
    ·as_aux_lemma =>
      replace c35 := Bool.eq_false_iff.mpr c35
      subst c35
      have H1 := H
      rw [if_neg (show ¬ (false = true) by decide)] at H1
      clear H
      have H := H1
      clear H1
      have H' := Aside0.mk H
      clear H
      go_wp2
      go_meet
      case rel => exact ⟨_, H', ⟨by have := HJ9.out; first | omega | exact Nat.le_refl _⟩, ⟨by (with_reducible repeat (first | apply Kd.R_alloc | apply Kd.R_drewN | apply Kd.R_drew)); exact Kd.R_mono HO_6.out (fun _ hk => trivial)⟩, ⟨xB HB.out⟩⟩
    subst c35
    have H1 := H
    rw [if_pos rfl] at H1
    clear H
    have H := H1
    clear H1
    replace H := Option.bind_eq_some_iff.mp H
    obtain ⟨⟨t510, t511⟩, A360, H⟩ := H
    (try dsimp only at H)
    have A36 := Aside0.mk A360
    clear A360
    replace H := Option.bind_eq_some_iff.mp H
    obtain ⟨⟨t512, t513⟩, A370, H⟩ := H
    (try dsimp only at H)
    have A37 := Aside0.mk A370
    clear A370
    replace H := Option.bind_eq_some_iff.mp H
    obtain ⟨⟨t514, t515⟩, A380, H⟩ := H
    (try dsimp only at H)
    have A38 := Aside0.mk A380
    clear A380
    replace H := Option.bind_eq_some_iff.mp H
    obtain ⟨⟨t516, t517⟩, A390, H⟩ := H
    (try dsimp only at H)
    have A39 := Aside0.mk A390
    clear A390
    have HC40 := Aside0.mk H
    clear H
    go_upto_region 15 with (first | ((with_reducible refine gate_callee (f := 72) rfl ?_); refine goesL_ (some 133) rfl rfl Try.func72 (by kernel_rfl) rfl #[.slice Ao12 t486.length co12] rfl (by (try simp only [List.map_toArray, List.map_cons, List.map_nil]); first | done | rfl | (simp only [List.length_drop, List.length_take]; rfl)) ?_; (with_reducible refine (impl_GainOf.calls kj9 _ _ t486 t510 t511 _ ?side1 ?side2 A36.out).mono ?_); (case side1 => exact xC ((Kd.R_reads' HO_5.out).2.2)); (case side2 => exact (Kd.R_reads' HO_5.out).2.1); rintro e w' ⟨rfl, ⟨nd, rfl⟩⟩; refine ⟨_, rfl, ?_⟩) | ((with_reducible refine gate_callee (f := 67) rfl ?_); refine goesL_ (some 138) rfl rfl Try.func67 (by kernel_rfl) rfl #[.slice Ao12 t486.length co12] rfl (by (try simp only [List.map_toArray, List.map_cons, List.map_nil]); first | done | rfl | (simp only [List.length_drop, List.length_take]; rfl)) ?_; (with_reducible refine (impl_SizeGain.calls kj9 _ _ t486 t512 t513 _ ?side1 ?side2 A37.out).mono ?_); (case side1 => exact xC ((Kd.R_reads' HO_5.out).2.2)); (case side2 => exact (Kd.R_reads' HO_5.out).2.1); rintro e w41 ⟨rfl, hb⟩; refine ⟨_, rfl, ?_⟩; have n0_ := Aside0.mk (Kd.R_below (xR HO_5.out) hb); have n1_ := Aside0.mk (Kd.R_below (xR HO_6.out) hb); have n2_ := Aside0.mk (Kd.R_below (xR HO_7.out) hb); have n3_ := Aside0.mk (Kd.R_below (xR HO_11.out) hb); have n4_ := Aside0.mk (below_step (xB HB.out) hb); clear HO_5; clear HO_6; clear HO_7; clear HO_11; clear HB; have HO_5 := n0_; have HO_6 := n1_; have HO_7 := n2_; have HO_11 := n3_; have HB := n4_; clear n0_ n1_ n2_ n3_ n4_; (try clear hb); (try clear hb2); (try clear hk); (try clear hi)) | ((with_reducible refine gate_callee (f := 73) rfl ?_); refine goesL_ (some 143) rfl rfl Try.func73 (by kernel_rfl) rfl #[.slice Ao13 t487.length co13] rfl (by (try simp only [List.map_toArray, List.map_cons, List.map_nil]); first | done | rfl | (simp only [List.length_drop, List.length_take]; rfl)) ?_; (with_reducible refine (impl_PeakOf.calls kj9 _ _ t487 t514 t515 _ ?side1 ?side2 A38.out).mono ?_); (case side1 => exact xC ((Kd.R_reads' HO_6.out).2.2)); (case side2 => exact (Kd.R_reads' HO_6.out).2.1); rintro e w42 ⟨rfl, hb⟩; refine ⟨_, rfl, ?_⟩; have n0_ := Aside0.mk (Kd.R_below (xR HO_5.out) hb); have n1_ := Aside0.mk (Kd.R_below (xR HO_6.out) hb); have n2_ := Aside0.mk (Kd.R_below (xR HO_7.out) hb); have n3_ := Aside0.mk (Kd.R_below (xR HO_11.out) hb); have n4_ := Aside0.mk (below_step (xB HB.out) hb); clear HO_5; clear HO_6; clear HO_7; clear HO_11; clear HB; have HO_5 := n0_; have HO_6 := n1_; have HO_7 := n2_; have HO_11 := n3_; have HB := n4_; clear n0_ n1_ n2_ n3_ n4_; (try clear hb); (try clear hb2); (try clear hk); (try clear hi); obtain ⟨Ao43, co43, eo43⟩ := Kd.R_slice HO_7.out; subst eo43) | ((with_reducible refine gate_callee (f := 73) rfl ?_); refine goesL_ (some 148) rfl rfl Try.func73 (by kernel_rfl) rfl #[.slice Ao43 t492.length co43] rfl (by (try simp only [List.map_toArray, List.map_cons, List.map_nil]); first | done | rfl | (simp only [List.length_drop, List.length_take]; rfl)) ?_; (with_reducible refine (impl_PeakOf.calls kj9 _ _ t492 t516 t517 _ ?side1 ?side2 A39.out).mono ?_); (case side1 => exact xC ((Kd.R_reads' HO_7.out).2.2)); (case side2 => exact (Kd.R_reads' HO_7.out).2.1); rintro e w44 ⟨rfl, hb⟩; refine ⟨_, rfl, ?_⟩; have n0_ := Aside0.mk (Kd.R_below (xR HO_5.out) hb); have n1_ := Aside0.mk (Kd.R_below (xR HO_6.out) hb); have n2_ := Aside0.mk (Kd.R_below (xR HO_7.out) hb); have n3_ := Aside0.mk (Kd.R_below (xR HO_11.out) hb); have n4_ := Aside0.mk (below_step (xB HB.out) hb); clear HO_5; clear HO_6; clear HO_7; clear HO_11; clear HB; have HO_5 := n0_; have HO_6 := n1_; have HO_7 := n2_; have HO_11 := n3_; have HB := n4_; clear n0_ n1_ n2_ n3_ n4_; (try clear hb); (try clear hb2); (try clear hk); (try clear hi)))
    (try simp only [Act.put, List.setIfInBounds_toArray, List.set_cons_zero, List.set_cons_succ])
    go_cut [205] (fun v205 wc => ∃ (kq : Nat) (x205_39 : Bool), v205 = .bool x205_39 ∧ Aside0 (laws_FnWeightsMultiply.j1 kq l1 t486 t487 t492 true x205_39 = some r) ∧ Aside0 (kq ≤ kj9) ∧ Aside0 (Kd.R (Kd.int .i64) 3 wc w.heap.size (fun k_ => some k_ ≠ ((.slice Ao13 t487.length co13) : Value).ownBlock ∧ some k_ ≠ ((.slice Ao43 t492.length co43) : Value).ownBlock) (.slice Ao12 t486.length co12) t486) ∧ Aside0 (Kd.R (Kd.int .i64) 3 wc w.heap.size (fun k_ => some k_ ≠ ((.slice Ao12 t486.length co12) : Value).ownBlock ∧ some k_ ≠ ((.slice Ao43 t492.length co43) : Value).ownBlock) (.slice Ao13 t487.length co13) t487) ∧ Aside0 (Kd.R (Kd.int .i64) 3 wc w.heap.size (fun k_ => some k_ ≠ ((.slice Ao12 t486.length co12) : Value).ownBlock ∧ some k_ ≠ ((.slice Ao13 t487.length co13) : Value).ownBlock) (.slice Ao43 t492.length co43) t492) ∧ Aside0 (Below w.heap.size w wc))
    case first => as_aux_lemma =>
     have H := HC40.out
     clear HC40
     by_cases c45 : t511 = true
     rotate_left
     ·as_aux_lemma =>
       replace c45 := Bool.eq_false_iff.mpr c45
       subst c45
       have H1 := H
       rw [if_neg (show ¬ (false = true) by decide)] at H1
       clear H
       have H := H1
       clear H1
       exact absurd H (by have hr_ := HRT.out; cases kj9 <;> simp [laws_FnWeightsMultiply.j1, hr_])
     subst c45
     have H1 := H
     rw [if_pos rfl] at H1
     clear H
     have H := H1
     clear H1
     replace H := Option.bind_eq_some_iff.mp H
     obtain ⟨t518, A460, H⟩ := H
     (try dsimp only at H)
     have A46 := Aside0.mk A460
     clear A460
     replace H := Option.bind_eq_some_iff.mp H
     obtain ⟨t519, A470, H⟩ := H
     (try dsimp only at H)
     have A47 := Aside0.mk A470
     clear A470
     by_cases c48 : t518 = (wrap64 (t510 * t519))
     rotate_left
     ·rw [if_neg c48] at H
      have c48b0 : (t518 == (wrap64 (t510 * t519))) = false := beq_eq_false_iff_ne.mpr c48
      have c48b1 : (t518 != (wrap64 (t510 * t519))) = true := bne_iff_ne.mpr c48
      (first | rw [c48b0] | (simp only [i64_w, i32_w]; rw [c48b0]) | skip)
      exact absurd H (by have hr_ := HRT.out; cases kj9 <;> simp [laws_FnWeightsMultiply.j1, hr_])
     rw [if_pos c48] at H
     have c48b0 : (t518 == (wrap64 (t510 * t519))) = true := beq_iff_eq.mpr c48
     have c48b1 : (t518 != (wrap64 (t510 * t519))) = false := bne_eq_false_iff_eq.mpr c48
     clear c48
     (first | rw [c48b0] | (simp only [i64_w, i32_w]; rw [c48b0]) | skip)
     by_cases c49 : t513 = true
     rotate_left
     ·as_aux_lemma =>
       replace c49 := Bool.eq_false_iff.mpr c49
       subst c49
       have H1 := H
       rw [if_neg (show ¬ (false = true) by decide)] at H1
       clear H
       have H := H1
       clear H1
       exact absurd H (by have hr_ := HRT.out; cases kj9 <;> simp [laws_FnWeightsMultiply.j1, hr_])
     subst c49
     have H1 := H
     rw [if_pos rfl] at H1
     clear H
     have H := H1
     clear H1
     by_cases c50 : t515 = true
     rotate_left
     ·as_aux_lemma =>
       replace c50 := Bool.eq_false_iff.mpr c50
       subst c50
       have H1 := H
       rw [if_neg (show ¬ (false = true) by decide)] at H1
       clear H
       have H := H1
       clear H1
       exact absurd H (by have hr_ := HRT.out; cases kj9 <;> simp [laws_FnWeightsMultiply.j1, hr_])
     subst c50
     have H1 := H
     rw [if_pos rfl] at H1
     clear H
     have H := H1
     clear H1
     by_cases c51 : t517 = true
     rotate_left
     ·as_aux_lemma =>
       replace c51 := Bool.eq_false_iff.mpr c51
       subst c51
       have H1 := H
       rw [if_neg (show ¬ (false = true) by decide)] at H1
       clear H
       have H := H1
       clear H1
       exact absurd H (by have hr_ := HRT.out; cases kj9 <;> simp [laws_FnWeightsMultiply.j1, hr_])
     subst c51
     have H1 := H
     rw [if_pos rfl] at H1
     clear H
     have H := H1
     clear H1
     by_cases c52 : t516 > (wrap64 (t512 * t514))
     ·rw [if_pos c52] at H
      have c52b0 : decide ((wrap64 (t512 * t514)) < t516) = true := decide_eq_true c52
      clear c52
      exact absurd H (by have hr_ := HRT.out; cases kj9 <;> simp [laws_FnWeightsMultiply.j1, hr_])
     as_aux_lemma =>
      rw [if_neg c52] at H
      have c52b0 : decide ((wrap64 (t512 * t514)) < t516) = false := decide_eq_false c52
      clear c52
      by_cases c53 : 0 ≤ (t487.length : Int)
      rotate_left
      ·rw [if_neg c53] at H
       exact absurd H (by simp)
      rw [if_pos c53] at H
      have c53b0 := eq_true c53
      have c53b1 : decide (0 ≤ (t487.length : Int)) = true := decide_eq_true c53
      clear c53
      by_cases c54 : (t487.length : Int) ≤ (t492.length : Int)
      rotate_left
      ·rw [if_neg c54] at H
       exact absurd H (by simp)
      rw [if_pos c54] at H
      have c54b0 := eq_true c54
      have c54b1 : decide ((t487.length : Int) ≤ (t492.length : Int)) = true := decide_eq_true c54
      clear c54
      obtain ⟨y520, hy520⟩ : ∃ y_ : List Int, y_ = (t492.take ((t487.length : Int) : Int).toNat) := ⟨_, rfl⟩
      replace H : ((laws_iSame.f kj9 y520 t500).bind fun t524 => (if t524 = true then (if (t487.length : Int) > 0 then (laws_FnWeightsMultiply.j1 kj9 l1 t486 t487 t492 true ((t492.length : Int) != (wrap64 ((wrap64 ((t486.length : Int) + (t487.length : Int))) - 1)))) else (laws_FnWeightsMultiply.j1 kj9 l1 t486 t487 t492 true false)) else (laws_FnWeightsMultiply.j1 kj9 l1 t486 t487 t492 true true))) = some r := by first | (rw [hy520]; with_reducible exact H) | (have H2_ := (Option.bind_some _ _).symm.trans H; rw [hy520]; with_reducible exact H2_) | (have H2_ := (Option.bind_some _ _).symm.trans H; with_reducible exact H2_) | with_reducible exact H | (rw [hy520]; exact H) | exact H
      have Ny520 := Aside0.mk hy520
      clear hy520
      replace H := Option.bind_eq_some_iff.mp H
      obtain ⟨t524, A550, H⟩ := H
      (try dsimp only at H)
      have A55 := Aside0.mk A550
      clear A550
      by_cases c56 : t524 = true
      rotate_left
      ·replace c56 := Bool.eq_false_iff.mpr c56
       subst c56
       have H1 := H
       rw [if_neg (show ¬ (false = true) by decide)] at H1
       clear H
       have H := H1
       clear H1
       exact absurd H (by have hr_ := HRT.out; cases kj9 <;> simp [laws_FnWeightsMultiply.j1, hr_])
      subst c56
      have H1 := H
      rw [if_pos rfl] at H1
      clear H
      have H := H1
      clear H1
      by_cases c57 : (t487.length : Int) > 0
      rotate_left
      ·as_aux_lemma =>
         rw [if_neg c57] at H
         have c57b0 : decide (0 < (t487.length : Int)) = false := decide_eq_false c57
         have c57b1 : decide (0 < t487.length) = false := decide_eq_false (by omega)
         clear c57
         have H' := Aside0.mk H
         clear H
         go_wp2_with (first | (go_at_call 74; (with_reducible refine (laws_iSum.calls kj9 _ _ t492 t518 _ ?side1 ?side2 A46.out).mono ?_); (case side1 => exact xC ((Kd.R_reads' HO_7.out).2.2)); (case side2 => exact (Kd.R_reads' HO_7.out).2.1); rintro e w' ⟨rfl, ⟨nd, rfl⟩⟩) | (go_at_call 74; (with_reducible refine (laws_iSum.calls kj9 _ _ t487 t519 _ ?side1 ?side2 A47.out).mono ?_); (case side1 => exact xC ((Kd.R_reads' HO_6.out).2.2)); (case side2 => exact (Kd.R_reads' HO_6.out).2.1); rintro e w' ⟨rfl, ⟨nd, rfl⟩⟩; have q60 : ((t487.length : Int) : Int) ≤ ((t492.length : Int) : Int) := of_decide_eq_true (by first | (with_reducible assumption) | assumption); obtain ⟨i060, hi060, _, hsz60, _⟩ := info_parts info3; have hroom60 : t492.length ≤ co43 := (Kd.R_reads' HO_7.out).2.1; have hC60 : Kd.C (Kd.int .i64) _ Ao43 t492.length t492 := (Kd.R_reads' HO_7.out).2.2; have hcut60 := cut_to (P := Try.prog) 24 3 .i64 Try.underlying24 hi060 Ao43 t492.length co43 (t487.length : Int) (of_decide_eq_true (by first | (with_reducible assumption) | assumption)) q60 hroom60; have hr60 := Kd.C_take (m := ((t487.length : Int) : Int).toNat) hC60 (by omega); have hy60 : y520.length = ((t487.length : Int) : Int).toNat := (by rw [Ny520.out, List.length_take]; omega); rw [← Ny520.out] at hr60; rw [← hy60] at hcut60; have HR523 := Aside0.mk hr60; have HC523 := Aside0.mk (show y520.length ≤ co43 from by omega); clear hr60 hC60 hroom60 hi060 hsz60; have KY60 := Aside0.mk hy60; clear hy60; have KL60 := Aside0.mk (show ((t487.length : Int) : Int).toNat ≤ t492.length from by omega); replace q60 := eq_true q60; obtain ⟨Ao61, co61, eo61⟩ := Kd.R_slice HO_11.out; subst eo61) | (go_at_call 21; (with_reducible refine (laws_iSame.calls kj9 _ _ y520 _ _ t500 true _ ?side1 ?side2 ?side3 ?side4 A55.out).mono ?_); (case side1 => repeat (first | exact (by repeat (first | (with_reducible exact HR523.out) | (with_reducible refine Kd.C_alloc ?_ _) | (with_reducible refine Kd.C_drewN ?_ _) | (with_reducible refine Kd.C_drew ?_) | exact HR523.out)) | (with_reducible refine Kd.C_alloc ?_ _) | (with_reducible refine Kd.C_drewN ?_ _) | (with_reducible refine Kd.C_drew ?_))); (case side2 => exact HC523.out); (case side3 => exact xC ((Kd.R_reads' HO_11.out).2.2)); (case side4 => exact (Kd.R_reads' HO_11.out).2.1); rintro e w' ⟨rfl, ⟨nd, rfl⟩⟩))
         go_meet
         case rel => exact ⟨_, (false), (by first | rfl | (simp; done) | (simp [*]; done)), H', ⟨by have := HJ9.out; first | omega | exact Nat.le_refl _⟩, ⟨by (with_reducible repeat (first | apply Kd.R_alloc | apply Kd.R_drewN | apply Kd.R_drew)); exact Kd.R_mono HO_5.out (fun _ hk => ⟨hk.1, hk.2.1⟩)⟩, ⟨by (with_reducible repeat (first | apply Kd.R_alloc | apply Kd.R_drewN | apply Kd.R_drew)); exact Kd.R_mono HO_6.out (fun _ hk => ⟨hk.1, hk.2.1⟩)⟩, ⟨by (with_reducible repeat (first | apply Kd.R_alloc | apply Kd.R_drewN | apply Kd.R_drew)); exact Kd.R_mono HO_7.out (fun _ hk => ⟨hk.1, hk.2.1⟩)⟩, ⟨xB HB.out⟩⟩
      rw [if_pos c57] at H
      have c57b0 : decide (0 < (t487.length : Int)) = true := decide_eq_true c57
      have c57b1 : decide (0 < t487.length) = true := decide_eq_true (by omega)
      clear c57
      have H' := Aside0.mk H
      clear H
      go_wp2_with (first | (go_at_call 74; (with_reducible refine (laws_iSum.calls kj9 _ _ t492 t518 _ ?side1 ?side2 A46.out).mono ?_); (case side1 => exact xC ((Kd.R_reads' HO_7.out).2.2)); (case side2 => exact (Kd.R_reads' HO_7.out).2.1); rintro e w' ⟨rfl, ⟨nd, rfl⟩⟩) | (go_at_call 74; (with_reducible refine (laws_iSum.calls kj9 _ _ t487 t519 _ ?side1 ?side2 A47.out).mono ?_); (case side1 => exact xC ((Kd.R_reads' HO_6.out).2.2)); (case side2 => exact (Kd.R_reads' HO_6.out).2.1); rintro e w' ⟨rfl, ⟨nd, rfl⟩⟩; have q58 : ((t487.length : Int) : Int) ≤ ((t492.length : Int) : Int) := of_decide_eq_true (by first | (with_reducible assumption) | assumption); obtain ⟨i058, hi058, _, hsz58, _⟩ := info_parts info3; have hroom58 : t492.length ≤ co43 := (Kd.R_reads' HO_7.out).2.1; have hC58 : Kd.C (Kd.int .i64) _ Ao43 t492.length t492 := (Kd.R_reads' HO_7.out).2.2; have hcut58 := cut_to (P := Try.prog) 24 3 .i64 Try.underlying24 hi058 Ao43 t492.length co43 (t487.length : Int) (of_decide_eq_true (by first | (with_reducible assumption) | assumption)) q58 hroom58; have hr58 := Kd.C_take (m := ((t487.length : Int) : Int).toNat) hC58 (by omega); have hy58 : y520.length = ((t487.length : Int) : Int).toNat := (by rw [Ny520.out, List.length_take]; omega); rw [← Ny520.out] at hr58; rw [← hy58] at hcut58; have HR523 := Aside0.mk hr58; have HC523 := Aside0.mk (show y520.length ≤ co43 from by omega); clear hr58 hC58 hroom58 hi058 hsz58; have KY58 := Aside0.mk hy58; clear hy58; have KL58 := Aside0.mk (show ((t487.length : Int) : Int).toNat ≤ t492.length from by omega); replace q58 := eq_true q58; obtain ⟨Ao59, co59, eo59⟩ := Kd.R_slice HO_11.out; subst eo59) | (go_at_call 21; (with_reducible refine (laws_iSame.calls kj9 _ _ y520 _ _ t500 true _ ?side1 ?side2 ?side3 ?side4 A55.out).mono ?_); (case side1 => repeat (first | exact (by repeat (first | (with_reducible exact HR523.out) | (with_reducible refine Kd.C_alloc ?_ _) | (with_reducible refine Kd.C_drewN ?_ _) | (with_reducible refine Kd.C_drew ?_) | exact HR523.out)) | (with_reducible refine Kd.C_alloc ?_ _) | (with_reducible refine Kd.C_drewN ?_ _) | (with_reducible refine Kd.C_drew ?_))); (case side2 => exact HC523.out); (case side3 => exact xC ((Kd.R_reads' HO_11.out).2.2)); (case side4 => exact (Kd.R_reads' HO_11.out).2.1); rintro e w' ⟨rfl, ⟨nd, rfl⟩⟩))
      go_meet
      case rel => exact ⟨_, (((t492.length : Int) != (wrap64 ((wrap64 ((t486.length : Int) + (t487.length : Int))) - 1)))), (by first | rfl | (simp; done) | (simp [*]; done)), H', ⟨by have := HJ9.out; first | omega | exact Nat.le_refl _⟩, ⟨by (with_reducible repeat (first | apply Kd.R_alloc | apply Kd.R_drewN | apply Kd.R_drew)); exact Kd.R_mono HO_5.out (fun _ hk => ⟨hk.1, hk.2.1⟩)⟩, ⟨by (with_reducible repeat (first | apply Kd.R_alloc | apply Kd.R_drewN | apply Kd.R_drew)); exact Kd.R_mono HO_6.out (fun _ hk => ⟨hk.1, hk.2.1⟩)⟩, ⟨by (with_reducible repeat (first | apply Kd.R_alloc | apply Kd.R_drewN | apply Kd.R_drew)); exact Kd.R_mono HO_7.out (fun _ hk => ⟨hk.1, hk.2.1⟩)⟩, ⟨xB HB.out⟩⟩
    case rest => as_aux_lemma =>
     clear HC40
     try clear c33
     try clear c35
     obtain ⟨kq, x205_39, rfl, HA, HJ39, HO_5, HO_6, HO_7, HB⟩ := hcut
     cases kq with
     | zero => exact absurd HA.out (by simp [laws_FnWeightsMultiply.j1])
     | succ kj39 =>
      have H := HA.out
      clear HA
      simp only [laws_FnWeightsMultiply.j1] at H
      by_cases c62 : x205_39 = true
      ·as_aux_lemma =>
        subst c62
        have H1 := H
        rw [if_pos rfl] at H1
        clear H
        have H := H1
        clear H1
        exact absurd ((Option.some.inj H).trans HRT.out) (by decide)
      replace c62 := Bool.eq_false_iff.mpr c62
      subst c62
      have H1 := H
      rw [if_neg (show ¬ (false = true) by decide)] at H1
      clear H
      have H := H1
      clear H1
      replace H := Option.bind_eq_some_iff.mp H
      obtain ⟨⟨t525, t526⟩, A630, H⟩ := H
      (try dsimp only at H)
      have A63 := Aside0.mk A630
      clear A630
      by_cases c64 : t526 = true
      rotate_left
      ·as_aux_lemma =>
        replace c64 := Bool.eq_false_iff.mpr c64
        subst c64
        have H1 := H
        rw [if_neg (show ¬ (false = true) by decide)] at H1
        clear H
        have H := H1
        clear H1
        have H' := Aside0.mk H
        clear H
        go_wp2_with (first | ((with_reducible refine gate_callee (f := 75) rfl ?_); refine goesL_ (some 208) rfl rfl Try.func75 (by kernel_rfl) rfl #[.slice Ao13 t487.length co13, .int .i64 1] rfl (by (try simp only [List.map_toArray, List.map_cons, List.map_nil]); first | done | rfl | (simp only [List.length_drop, List.length_take]; rfl)) ?_; (with_reducible refine (impl_DelaySignal.calls kj39 _ _ t487 1 t525 false _ ?side1 ?side2 A63.out).mono ?_); (case side1 => exact xC ((Kd.R_reads' HO_6.out).2.2)); (case side2 => exact (Kd.R_reads' HO_6.out).2.1); rintro e w81 ⟨v527, rfl, ho0, hb⟩; refine ⟨_, rfl, ?_⟩; have n0_ := Aside0.mk (Kd.R_elder' (xR HO_5.out) (Kd.R_base ho0) hb); have n1_ := Aside0.mk (Kd.R_elder' (xR HO_6.out) (Kd.R_base ho0) hb); have n2_ := Aside0.mk (Kd.R_elder' (xR HO_7.out) (Kd.R_base ho0) hb); have n3_ := Aside0.mk (Kd.R_lower (Kd.R_new' (Kd.R_new' (Kd.R_new' ho0 (Kd.R_lt (xR HO_5.out))) (Kd.R_lt (xR HO_6.out))) (Kd.R_lt (xR HO_7.out))) (below_size (xB HB.out))); have n4_ := Aside0.mk (below_step (xB HB.out) hb); clear HO_5; clear HO_6; clear HO_7; clear HB; have HO_5 := n0_; have HO_6 := n1_; have HO_7 := n2_; have HO528 := n3_; have HB := n4_; clear n0_ n1_ n2_ n3_ n4_; (try clear hb); (try clear hb2); (try clear hk); (try clear hi); (try clear ho0)))
        go_meet
        case rel => exact ⟨_, H', ⟨by have := HJ9.out; have := HJ39.out; first | omega | exact Nat.le_refl _⟩, ⟨by (with_reducible repeat (first | apply Kd.R_alloc | apply Kd.R_drewN | apply Kd.R_drew)); exact Kd.R_mono HO_6.out (fun _ hk => trivial)⟩, ⟨xB HB.out⟩⟩
      subst c64
      have H1 := H
      rw [if_pos rfl] at H1
      clear H
      have H := H1
      clear H1
      replace H := Option.bind_eq_some_iff.mp H
      obtain ⟨⟨t529, t530⟩, A650, H⟩ := H
      (try dsimp only at H)
      have A65 := Aside0.mk A650
      clear A650
      replace H := Option.bind_eq_some_iff.mp H
      obtain ⟨⟨t533, t534⟩, A660, H⟩ := H
      (try dsimp only at H)
      have A66 := Aside0.mk A660
      clear A660
      by_cases c67 : (t487.length : Int) > 0
      rotate_left
      ·as_aux_lemma =>
        rw [if_neg c67] at H
        have c67b0 : decide (0 < (t487.length : Int)) = false := decide_eq_false c67
        have c67b1 : decide (0 < t487.length) = false := decide_eq_false (by omega)
        clear c67
        have H' := Aside0.mk H
        clear H
        go_wp2_with (first | ((with_reducible refine gate_callee (f := 75) rfl ?_); refine goesL_ (some 208) rfl rfl Try.func75 (by kernel_rfl) rfl #[.slice Ao13 t487.length co13, .int .i64 1] rfl (by (try simp only [List.map_toArray, List.map_cons, List.map_nil]); first | done | rfl | (simp only [List.length_drop, List.length_take]; rfl)) ?_; (with_reducible refine (impl_DelaySignal.calls kj39 _ _ t487 1 t525 true _ ?side1 ?side2 A63.out).mono ?_); (case side1 => exact xC ((Kd.R_reads' HO_6.out).2.2)); (case side2 => exact (Kd.R_reads' HO_6.out).2.1); rintro e w77 ⟨v527, rfl, ho0, hb⟩; refine ⟨_, rfl, ?_⟩; have n0_ := Aside0.mk (Kd.R_elder' (xR HO_5.out) (Kd.R_base ho0) hb); have n1_ := Aside0.mk (Kd.R_elder' (xR HO_6.out) (Kd.R_base ho0) hb); have n2_ := Aside0.mk (Kd.R_elder' (xR HO_7.out) (Kd.R_base ho0) hb); have n3_ := Aside0.mk (Kd.R_lower (Kd.R_new' (Kd.R_new' (Kd.R_new' ho0 (Kd.R_lt (xR HO_5.out))) (Kd.R_lt (xR HO_6.out))) (Kd.R_lt (xR HO_7.out))) (below_size (xB HB.out))); have n4_ := Aside0.mk (below_step (xB HB.out) hb); clear HO_5; clear HO_6; clear HO_7; clear HB; have HO_5 := n0_; have HO_6 := n1_; have HO_7 := n2_; have HO528 := n3_; have HB := n4_; clear n0_ n1_ n2_ n3_ n4_; (try clear hb); (try clear hb2); (try clear hk); (try clear hi); (try clear ho0); obtain ⟨Ao78, co78, eo78⟩ := Kd.R_slice HO528.out; subst eo78) | ((with_reducible refine gate_callee (f := 69) rfl ?_); refine goesL_ (some 215) rfl rfl Try.func69 (by kernel_rfl) rfl #[.slice Ao12 t486.length co12, .slice Ao78 t525.length co78] rfl (by (try simp only [List.map_toArray, List.map_cons, List.map_nil]); first | done | rfl | (simp only [List.length_drop, List.length_take]; rfl)) ?_; (with_reducible refine (impl_FilterSignal.calls kj39 _ _ t486 _ _ t525 t529 t530 _ ?side1 ?side2 ?side3 ?side4 A65.out).mono ?_); (case side1 => exact xC ((Kd.R_reads' HO_5.out).2.2)); (case side2 => exact (Kd.R_reads' HO_5.out).2.1); (case side3 => exact xC ((Kd.R_reads' HO528.out).2.2)); (case side4 => exact (Kd.R_reads' HO528.out).2.1); rintro e w79 ⟨v531, rfl, ho0, hb⟩; refine ⟨_, rfl, ?_⟩; have n0_ := Aside0.mk (Kd.R_elder' (xR HO_5.out) (Kd.R_base ho0) hb); have n1_ := Aside0.mk (Kd.R_elder' (xR HO_6.out) (Kd.R_base ho0) hb); have n2_ := Aside0.mk (Kd.R_elder' (xR HO_7.out) (Kd.R_base ho0) hb); have n3_ := Aside0.mk (Kd.R_elder' (xR HO528.out) (Kd.R_base ho0) hb); have n4_ := Aside0.mk (Kd.R_lower (Kd.R_new' (Kd.R_new' (Kd.R_new' (Kd.R_new' ho0 (Kd.R_lt (xR HO_5.out))) (Kd.R_lt (xR HO_6.out))) (Kd.R_lt (xR HO_7.out))) (Kd.R_lt (xR HO528.out))) (below_size (xB HB.out))); have n5_ := Aside0.mk (below_step (xB HB.out) hb); clear HO_5; clear HO_6; clear HO_7; clear HO528; clear HB; have HO_5 := n0_; have HO_6 := n1_; have HO_7 := n2_; have HO528 := n3_; have HO532 := n4_; have HB := n5_; clear n0_ n1_ n2_ n3_ n4_ n5_; (try clear hb); (try clear hb2); (try clear hk); (try clear hi); (try clear ho0)) | ((with_reducible refine gate_callee (f := 75) rfl ?_); refine goesL_ (some 220) rfl rfl Try.func75 (by kernel_rfl) rfl #[.slice Ao43 t492.length co43, .int .i64 1] rfl (by (try simp only [List.map_toArray, List.map_cons, List.map_nil]); first | done | rfl | (simp only [List.length_drop, List.length_take]; rfl)) ?_; (with_reducible refine (impl_DelaySignal.calls kj39 _ _ t492 1 t533 t534 _ ?side1 ?side2 A66.out).mono ?_); (case side1 => exact xC ((Kd.R_reads' HO_7.out).2.2)); (case side2 => exact (Kd.R_reads' HO_7.out).2.1); rintro e w80 ⟨v535, rfl, ho0, hb⟩; refine ⟨_, rfl, ?_⟩; have n0_ := Aside0.mk (Kd.R_elder' (xR HO_5.out) (Kd.R_base ho0) hb); have n1_ := Aside0.mk (Kd.R_elder' (xR HO_6.out) (Kd.R_base ho0) hb); have n2_ := Aside0.mk (Kd.R_elder' (xR HO_7.out) (Kd.R_base ho0) hb); have n3_ := Aside0.mk (Kd.R_elder' (xR HO528.out) (Kd.R_base ho0) hb); have n4_ := Aside0.mk (Kd.R_elder' (xR HO532.out) (Kd.R_base ho0) hb); have n5_ := Aside0.mk (Kd.R_lower (Kd.R_new' (Kd.R_new' (Kd.R_new' (Kd.R_new' (Kd.R_new' ho0 (Kd.R_lt (xR HO_5.out))) (Kd.R_lt (xR HO_6.out))) (Kd.R_lt (xR HO_7.out))) (Kd.R_lt (xR HO528.out))) (Kd.R_lt (xR HO532.out))) (below_size (xB HB.out))); have n6_ := Aside0.mk (below_step (xB HB.out) hb); clear HO_5; clear HO_6; clear HO_7; clear HO528; clear HO532; clear HB; have HO_5 := n0_; have HO_6 := n1_; have HO_7 := n2_; have HO528 := n3_; have HO532 := n4_; have HO536 := n5_; have HB := n6_; clear n0_ n1_ n2_ n3_ n4_ n5_ n6_; (try clear hb); (try clear hb2); (try clear hk); (try clear hi); (try clear ho0)))
        go_meet
        case rel => exact ⟨_, H', ⟨by have := HJ9.out; have := HJ39.out; first | omega | exact Nat.le_refl _⟩, ⟨by (with_reducible repeat (first | apply Kd.R_alloc | apply Kd.R_drewN | apply Kd.R_drew)); exact Kd.R_mono HO_6.out (fun _ hk => trivial)⟩, ⟨xB HB.out⟩⟩
      as_aux_lemma =>
       rw [if_pos c67] at H
       have c67b0 : decide (0 < (t487.length : Int)) = true := decide_eq_true c67
       have c67b1 : decide (0 < t487.length) = true := decide_eq_true (by omega)
       clear c67
       by_cases c68 : (t530 != t534) = true
       ·rw [if_pos c68] at H
        have c68b0 : (t530 != t534) = true := c68
        (try (have c68b1 : decide (t530 = t534) = false := by simpa using c68))
        (try (have c68b2 : (t530 == t534) = false := by simpa using c68))
        (try (have c68b3 : ¬ (t530 = t534) := by simpa using c68))
        clear c68
        exact absurd ((Option.some.inj H).trans HRT.out) (by decide)
       rw [if_neg c68] at H
       have c68b0 : (t530 != t534) = false := by simpa using c68
       (try (have c68b1 : decide (t530 = t534) = true := by simpa using c68))
       (try (have c68b2 : (t530 == t534) = true := by simpa using c68))
       clear c68
       replace H := Option.bind_eq_some_iff.mp H
       obtain ⟨t537, A690, H⟩ := H
       (try dsimp only at H)
       have A69 := Aside0.mk A690
       clear A690
       by_cases c70 : t537 = true
       rotate_left
       ·replace c70 := Bool.eq_false_iff.mpr c70
        subst c70
        have H1 := H
        rw [if_neg (show ¬ (false = true) by decide)] at H1
        clear H
        have H := H1
        clear H1
        exact absurd ((Option.some.inj H).trans HRT.out) (by decide)
       subst c70
       have H1 := H
       rw [if_pos rfl] at H1
       clear H
       have H := H1
       clear H1
       have H' := Aside0.mk H
       clear H
       go_wp2_with (first | ((with_reducible refine gate_callee (f := 75) rfl ?_); refine goesL_ (some 208) rfl rfl Try.func75 (by kernel_rfl) rfl #[.slice Ao13 t487.length co13, .int .i64 1] rfl (by (try simp only [List.map_toArray, List.map_cons, List.map_nil]); first | done | rfl | (simp only [List.length_drop, List.length_take]; rfl)) ?_; (with_reducible refine (impl_DelaySignal.calls kj39 _ _ t487 1 t525 true _ ?side1 ?side2 A63.out).mono ?_); (case side1 => exact xC ((Kd.R_reads' HO_6.out).2.2)); (case side2 => exact (Kd.R_reads' HO_6.out).2.1); rintro e w71 ⟨v527, rfl, ho0, hb⟩; refine ⟨_, rfl, ?_⟩; have n0_ := Aside0.mk (Kd.R_elder' (xR HO_5.out) (Kd.R_base ho0) hb); have n1_ := Aside0.mk (Kd.R_elder' (xR HO_6.out) (Kd.R_base ho0) hb); have n2_ := Aside0.mk (Kd.R_elder' (xR HO_7.out) (Kd.R_base ho0) hb); have n3_ := Aside0.mk (Kd.R_lower (Kd.R_new' (Kd.R_new' (Kd.R_new' ho0 (Kd.R_lt (xR HO_5.out))) (Kd.R_lt (xR HO_6.out))) (Kd.R_lt (xR HO_7.out))) (below_size (xB HB.out))); have n4_ := Aside0.mk (below_step (xB HB.out) hb); clear HO_5; clear HO_6; clear HO_7; clear HB; have HO_5 := n0_; have HO_6 := n1_; have HO_7 := n2_; have HO528 := n3_; have HB := n4_; clear n0_ n1_ n2_ n3_ n4_; (try clear hb); (try clear hb2); (try clear hk); (try clear hi); (try clear ho0); obtain ⟨Ao72, co72, eo72⟩ := Kd.R_slice HO528.out; subst eo72) | ((with_reducible refine gate_callee (f := 69) rfl ?_); refine goesL_ (some 215) rfl rfl Try.func69 (by kernel_rfl) rfl #[.slice Ao12 t486.length co12, .slice Ao72 t525.length co72] rfl (by (try simp only [List.map_toArray, List.map_cons, List.map_nil]); first | done | rfl | (simp only [List.length_drop, List.length_take]; rfl)) ?_; (with_reducible refine (impl_FilterSignal.calls kj39 _ _ t486 _ _ t525 t529 t530 _ ?side1 ?side2 ?side3 ?side4 A65.out).mono ?_); (case side1 => exact xC ((Kd.R_reads' HO_5.out).2.2)); (case side2 => exact (Kd.R_reads' HO_5.out).2.1); (case side3 => exact xC ((Kd.R_reads' HO528.out).2.2)); (case side4 => exact (Kd.R_reads' HO528.out).2.1); rintro e w73 ⟨v531, rfl, ho0, hb⟩; refine ⟨_, rfl, ?_⟩; have n0_ := Aside0.mk (Kd.R_elder' (xR HO_5.out) (Kd.R_base ho0) hb); have n1_ := Aside0.mk (Kd.R_elder' (xR HO_6.out) (Kd.R_base ho0) hb); have n2_ := Aside0.mk (Kd.R_elder' (xR HO_7.out) (Kd.R_base ho0) hb); have n3_ := Aside0.mk (Kd.R_elder' (xR HO528.out) (Kd.R_base ho0) hb); have n4_ := Aside0.mk (Kd.R_lower (Kd.R_new' (Kd.R_new' (Kd.R_new' (Kd.R_new' ho0 (Kd.R_lt (xR HO_5.out))) (Kd.R_lt (xR HO_6.out))) (Kd.R_lt (xR HO_7.out))) (Kd.R_lt (xR HO528.out))) (below_size (xB HB.out))); have n5_ := Aside0.mk (below_step (xB HB.out) hb); clear HO_5; clear HO_6; clear HO_7; clear HO528; clear HB; have HO_5 := n0_; have HO_6 := n1_; have HO_7 := n2_; have HO528 := n3_; have HO532 := n4_; have HB := n5_; clear n0_ n1_ n2_ n3_ n4_ n5_; (try clear hb); (try clear hb2); (try clear hk); (try clear hi); (try clear ho0)) | ((with_reducible refine gate_callee (f := 75) rfl ?_); refine goesL_ (some 220) rfl rfl Try.func75 (by kernel_rfl) rfl #[.slice Ao43 t492.length co43, .int .i64 1] rfl (by (try simp only [List.map_toArray, List.map_cons, List.map_nil]); first | done | rfl | (simp only [List.length_drop, List.length_take]; rfl)) ?_; (with_reducible refine (impl_DelaySignal.calls kj39 _ _ t492 1 t533 t534 _ ?side1 ?side2 A66.out).mono ?_); (case side1 => exact xC ((Kd.R_reads' HO_7.out).2.2)); (case side2 => exact (Kd.R_reads' HO_7.out).2.1); rintro e w74 ⟨v535, rfl, ho0, hb⟩; refine ⟨_, rfl, ?_⟩; have n0_ := Aside0.mk (Kd.R_elder' (xR HO_5.out) (Kd.R_base ho0) hb); have n1_ := Aside0.mk (Kd.R_elder' (xR HO_6.out) (Kd.R_base ho0) hb); have n2_ := Aside0.mk (Kd.R_elder' (xR HO_7.out) (Kd.R_base ho0) hb); have n3_ := Aside0.mk (Kd.R_elder' (xR HO528.out) (Kd.R_base ho0) hb); have n4_ := Aside0.mk (Kd.R_elder' (xR HO532.out) (Kd.R_base ho0) hb); have n5_ := Aside0.mk (Kd.R_lower (Kd.R_new' (Kd.R_new' (Kd.R_new' (Kd.R_new' (Kd.R_new' ho0 (Kd.R_lt (xR HO_5.out))) (Kd.R_lt (xR HO_6.out))) (Kd.R_lt (xR HO_7.out))) (Kd.R_lt (xR HO528.out))) (Kd.R_lt (xR HO532.out))) (below_size (xB HB.out))); have n6_ := Aside0.mk (below_step (xB HB.out) hb); clear HO_5; clear HO_6; clear HO_7; clear HO528; clear HO532; clear HB; have HO_5 := n0_; have HO_6 := n1_; have HO_7 := n2_; have HO528 := n3_; have HO532 := n4_; have HO536 := n5_; have HB := n6_; clear n0_ n1_ n2_ n3_ n4_ n5_ n6_; (try clear hb); (try clear hb2); (try clear hk); (try clear hi); (try clear ho0); obtain ⟨Ao75, co75, eo75⟩ := Kd.R_slice HO532.out; subst eo75; obtain ⟨Ao76, co76, eo76⟩ := Kd.R_slice HO536.out; subst eo76) | (go_at_call 21; (with_reducible refine (laws_iSame.calls kj39 _ _ t529 _ _ t533 true _ ?side1 ?side2 ?side3 ?side4 A69.out).mono ?_); (case side1 => exact xC ((Kd.R_reads' HO532.out).2.2)); (case side2 => exact (Kd.R_reads' HO532.out).2.1); (case side3 => exact xC ((Kd.R_reads' HO536.out).2.2)); (case side4 => exact (Kd.R_reads' HO536.out).2.1); rintro e w' ⟨rfl, ⟨nd, rfl⟩⟩))
       go_meet
       case rel => exact ⟨_, H', ⟨by have := HJ9.out; have := HJ39.out; first | omega | exact Nat.le_refl _⟩, ⟨by (with_reducible repeat (first | apply Kd.R_alloc | apply Kd.R_drewN | apply Kd.R_drew)); exact Kd.R_mono HO_6.out (fun _ hk => trivial)⟩, ⟨xB HB.out⟩⟩
   case rest => as_aux_lemma =>
    clear HC34
    try clear c33
    obtain ⟨kq, HA, HJ33, HO_6, HB⟩ := hcut
    cases kq with
    | zero => exact absurd HA.out (by simp [laws_FnWeightsMultiply.j2])
    | succ kj33 =>
     have H := HA.out
     clear HA
     simp only [laws_FnWeightsMultiply.j2] at H
     replace H := Option.bind_eq_some_iff.mp H
     obtain ⟨⟨t538, t539⟩, A820, H⟩ := H
     (try dsimp only at H)
     have A82 := Aside0.mk A820
     clear A820
     replace H := Option.bind_eq_some_iff.mp H
     obtain ⟨⟨t544, t545⟩, A830, H⟩ := H
     (try dsimp only at H)
     have A83 := Aside0.mk A830
     clear A830
     replace H := Option.bind_eq_some_iff.mp H
     obtain ⟨⟨t548, t549⟩, A840, H⟩ := H
     (try dsimp only at H)
     have A84 := Aside0.mk A840
     clear A840
     replace H := Option.bind_eq_some_iff.mp H
     obtain ⟨⟨t552, t553⟩, A850, H⟩ := H
     (try dsimp only at H)
     have A85 := Aside0.mk A850
     clear A850
     have HC86 := Aside0.mk H
     clear H
     go_upto_region 27 with (first | ((with_reducible refine gate_callee (f := 76) rfl ?_); refine goesL_ (some 239) rfl rfl Try.func76 (by kernel_rfl) rfl #[.slice A1 l1.length c1] rfl (by (try simp only [List.map_toArray, List.map_cons, List.map_nil]); first | done | rfl | (simp only [List.length_drop, List.length_take]; rfl)) ?_; (with_reducible refine (spec_DrawTimesWeights.calls kj33 _ _ l1 t538 t539 _ ?side1 ?side2 A82.out).mono ?_); (case side1 => exact xC (Kd.C_below HR1.out HB.out)); (case side2 => exact HC1.out); rintro e w87 ⟨v540, v542, rfl, ho0, ho1, hb⟩; refine ⟨_, rfl, ?_⟩; have n0_ := Aside0.mk (Kd.R_mono (Kd.R_told (Kd.R_told (Kd.R_old (xR HO_6.out) hb) (Kd.R_base ho0)) (Kd.R_base ho1)) (fun _ h_ => h_.1)); have n1_ := Aside0.mk (Kd.R_lower (Kd.R_new' ho0 (Kd.R_lt (xR HO_6.out))) (below_size (xB HB.out))); have n2_ := Aside0.mk (Kd.R_lower (Kd.R_new' ho1 (Kd.R_lt (xR HO_6.out))) (below_size (xB HB.out))); have n3_ := Aside0.mk (below_step (xB HB.out) hb); clear HO_6; clear HB; have HO_6 := n0_; have HO541 := n1_; have HO543 := n2_; have HB := n3_; clear n0_ n1_ n2_ n3_; (try clear hb); (try clear hb2); (try clear hk); (try clear hi); (try clear ho0); (try clear ho1); obtain ⟨Ao88, co88, eo88⟩ := Kd.R_slice HO541.out; subst eo88; obtain ⟨Ao89, co89, eo89⟩ := Kd.R_slice HO543.out; subst eo89) | ((with_reducible refine gate_callee (f := 77) rfl ?_); refine goesL_ (some 245) rfl rfl Try.func77 (by kernel_rfl) rfl #[.slice Ao88 t538.length co88, .slice Ao89 t539.length co89] rfl (by (try simp only [List.map_toArray, List.map_cons, List.map_nil]); first | done | rfl | (simp only [List.length_drop, List.length_take]; rfl)) ?_; (with_reducible refine (impl_TimesWeights.calls kj33 _ _ t538 _ _ t539 t544 t545 _ ?side1 ?side2 ?side3 ?side4 A83.out).mono ?_); (case side1 => exact xC ((Kd.R_reads' HO541.out).2.2)); (case side2 => exact (Kd.R_reads' HO541.out).2.1); (case side3 => exact xC ((Kd.R_reads' HO543.out).2.2)); (case side4 => exact (Kd.R_reads' HO543.out).2.1); rintro e w90 ⟨v546, rfl, ho0, hb⟩; refine ⟨_, rfl, ?_⟩; have n0_ := Aside0.mk (Kd.R_elder' (xR HO_6.out) (Kd.R_base ho0) hb); have n1_ := Aside0.mk (Kd.R_elder' (xR HO541.out) (Kd.R_base ho0) hb); have n2_ := Aside0.mk (Kd.R_elder' (xR HO543.out) (Kd.R_base ho0) hb); have n3_ := Aside0.mk (Kd.R_lower (Kd.R_new' (Kd.R_new' (Kd.R_new' ho0 (Kd.R_lt (xR HO_6.out))) (Kd.R_lt (xR HO541.out))) (Kd.R_lt (xR HO543.out))) (below_size (xB HB.out))); have n4_ := Aside0.mk (below_step (xB HB.out) hb); clear HO_6; clear HO541; clear HO543; clear HB; have HO_6 := n0_; have HO541 := n1_; have HO543 := n2_; have HO547 := n3_; have HB := n4_; clear n0_ n1_ n2_ n3_ n4_; (try clear hb); (try clear hb2); (try clear hk); (try clear hi); (try clear ho0)) | ((with_reducible refine gate_callee (f := 78) rfl ?_); refine goesL_ (some 251) rfl rfl Try.func78 (by kernel_rfl) rfl #[.slice Ao88 t538.length co88, .slice Ao89 t539.length co89] rfl (by (try simp only [List.map_toArray, List.map_cons, List.map_nil]); first | done | rfl | (simp only [List.length_drop, List.length_take]; rfl)) ?_; (with_reducible refine (spec_TimesWeights.calls kj33 _ _ t538 _ _ t539 t548 t549 _ ?side1 ?side2 ?side3 ?side4 A84.out).mono ?_); (case side1 => exact xC ((Kd.R_reads' HO541.out).2.2)); (case side2 => exact (Kd.R_reads' HO541.out).2.1); (case side3 => exact xC ((Kd.R_reads' HO543.out).2.2)); (case side4 => exact (Kd.R_reads' HO543.out).2.1); rintro e w91 ⟨v550, rfl, ho0, hb⟩; refine ⟨_, rfl, ?_⟩; have n0_ := Aside0.mk (Kd.R_elder' (xR HO_6.out) (Kd.R_base ho0) hb); have n1_ := Aside0.mk (Kd.R_elder' (xR HO541.out) (Kd.R_base ho0) hb); have n2_ := Aside0.mk (Kd.R_elder' (xR HO543.out) (Kd.R_base ho0) hb); have n3_ := Aside0.mk (Kd.R_elder' (xR HO547.out) (Kd.R_base ho0) hb); have n4_ := Aside0.mk (Kd.R_lower (Kd.R_new' (Kd.R_new' (Kd.R_new' (Kd.R_new' ho0 (Kd.R_lt (xR HO_6.out))) (Kd.R_lt (xR HO541.out))) (Kd.R_lt (xR HO543.out))) (Kd.R_lt (xR HO547.out))) (below_size (xB HB.out))); have n5_ := Aside0.mk (below_step (xB HB.out) hb); clear HO_6; clear HO541; clear HO543; clear HO547; clear HB; have HO_6 := n0_; have HO541 := n1_; have HO543 := n2_; have HO547 := n3_; have HO551 := n4_; have HB := n5_; clear n0_ n1_ n2_ n3_ n4_ n5_; (try clear hb); (try clear hb2); (try clear hk); (try clear hi); (try clear ho0)) | ((with_reducible refine gate_callee (f := 77) rfl ?_); refine goesL_ (some 257) rfl rfl Try.func77 (by kernel_rfl) rfl #[.slice Ao89 t539.length co89, .slice Ao88 t538.length co88] rfl (by (try simp only [List.map_toArray, List.map_cons, List.map_nil]); first | done | rfl | (simp only [List.length_drop, List.length_take]; rfl)) ?_; (with_reducible refine (impl_TimesWeights.calls kj33 _ _ t539 _ _ t538 t552 t553 _ ?side1 ?side2 ?side3 ?side4 A85.out).mono ?_); (case side1 => exact xC ((Kd.R_reads' HO543.out).2.2)); (case side2 => exact (Kd.R_reads' HO543.out).2.1); (case side3 => exact xC ((Kd.R_reads' HO541.out).2.2)); (case side4 => exact (Kd.R_reads' HO541.out).2.1); rintro e w92 ⟨v554, rfl, ho0, hb⟩; refine ⟨_, rfl, ?_⟩; have n0_ := Aside0.mk (Kd.R_elder' (xR HO_6.out) (Kd.R_base ho0) hb); have n1_ := Aside0.mk (Kd.R_elder' (xR HO541.out) (Kd.R_base ho0) hb); have n2_ := Aside0.mk (Kd.R_elder' (xR HO543.out) (Kd.R_base ho0) hb); have n3_ := Aside0.mk (Kd.R_elder' (xR HO547.out) (Kd.R_base ho0) hb); have n4_ := Aside0.mk (Kd.R_elder' (xR HO551.out) (Kd.R_base ho0) hb); have n5_ := Aside0.mk (Kd.R_lower (Kd.R_new' (Kd.R_new' (Kd.R_new' (Kd.R_new' (Kd.R_new' ho0 (Kd.R_lt (xR HO_6.out))) (Kd.R_lt (xR HO541.out))) (Kd.R_lt (xR HO543.out))) (Kd.R_lt (xR HO547.out))) (Kd.R_lt (xR HO551.out))) (below_size (xB HB.out))); have n6_ := Aside0.mk (below_step (xB HB.out) hb); clear HO_6; clear HO541; clear HO543; clear HO547; clear HO551; clear HB; have HO_6 := n0_; have HO541 := n1_; have HO543 := n2_; have HO547 := n3_; have HO551 := n4_; have HO555 := n5_; have HB := n6_; clear n0_ n1_ n2_ n3_ n4_ n5_ n6_; (try clear hb); (try clear hb2); (try clear hk); (try clear hi); (try clear ho0)))
     (try simp only [Act.put, List.setIfInBounds_toArray, List.set_cons_zero, List.set_cons_succ])
     go_cut [279] (fun v279 wc => ∃ (kq : Nat) (x279_85 : Bool), v279 = .bool x279_85 ∧ Aside0 (laws_FnWeightsMultiply.j3 kq l1 t487 t493 t538 t539 t544 t545 x279_85 = some r) ∧ Aside0 (kq ≤ kj33) ∧ Aside0 (Kd.R (Kd.int .i64) 3 wc w.heap.size (fun k_ => some k_ ≠ ((.slice Ao88 t538.length co88) : Value).ownBlock ∧ some k_ ≠ ((.slice Ao89 t539.length co89) : Value).ownBlock ∧ some k_ ≠ (v546 : Value).ownBlock) (.slice Ao13 t487.length co13) t487) ∧ Aside0 (Kd.R (Kd.int .i64) 3 wc w.heap.size (fun k_ => some k_ ≠ ((.slice Ao13 t487.length co13) : Value).ownBlock ∧ some k_ ≠ ((.slice Ao89 t539.length co89) : Value).ownBlock ∧ some k_ ≠ (v546 : Value).ownBlock) (.slice Ao88 t538.length co88) t538) ∧ Aside0 (Kd.R (Kd.int .i64) 3 wc w.heap.size (fun k_ => some k_ ≠ ((.slice Ao13 t487.length co13) : Value).ownBlock ∧ some k_ ≠ ((.slice Ao88 t538.length co88) : Value).ownBlock ∧ some k_ ≠ (v546 : Value).ownBlock) (.slice Ao89 t539.length co89) t539) ∧ Aside0 (Kd.R (Kd.int .i64) 3 wc w.heap.size (fun k_ => some k_ ≠ ((.slice Ao13 t487.length co13) : Value).ownBlock ∧ some k_ ≠ ((.slice Ao88 t538.length co88) : Value).ownBlock ∧ some k_ ≠ ((.slice Ao89 t539.length co89) : Value).ownBlock) v546 t544) ∧ Aside0 (Below w.heap.size w wc))
     case first => as_aux_lemma =>
      have H := HC86.out
      clear HC86
      by_cases c93 : (t545 != t549) = true
      ·as_aux_lemma =>
        rw [if_pos c93] at H
        have c93b0 : (t545 != t549) = true := c93
        (try (have c93b1 : decide (t545 = t549) = false := by simpa using c93))
        (try (have c93b2 : (t545 == t549) = false := by simpa using c93))
        (try (have c93b3 : ¬ (t545 = t549) := by simpa using c93))
        clear c93
        (first | rw [c93b0] | (simp only [i64_w, i32_w]; rw [c93b0]) | skip)
        exact absurd H (by have hr_ := HRT.out; cases kj33 <;> simp [laws_FnWeightsMultiply.j3, hr_])
      as_aux_lemma =>
       rw [if_neg c93] at H
       have c93b0 : (t545 != t549) = false := by simpa using c93
       (try (have c93b1 : decide (t545 = t549) = true := by simpa using c93))
       (try (have c93b2 : (t545 == t549) = true := by simpa using c93))
       clear c93
       (first | rw [c93b0] | (simp only [i64_w, i32_w]; rw [c93b0]) | skip)
       replace H := Option.bind_eq_some_iff.mp H
       obtain ⟨t556, A940, H⟩ := H
       (try dsimp only at H)
       have A94 := Aside0.mk A940
       clear A940
       by_cases c95 : t556 = true
       rotate_left
       ·replace c95 := Bool.eq_false_iff.mpr c95
        subst c95
        have H1 := H
        rw [if_neg (show ¬ (false = true) by decide)] at H1
        clear H
        have H := H1
        clear H1
        exact absurd H (by have hr_ := HRT.out; cases kj33 <;> simp [laws_FnWeightsMultiply.j3, hr_])
       subst c95
       have H1 := H
       rw [if_pos rfl] at H1
       clear H
       have H := H1
       clear H1
       by_cases c96 : (t553 != t545) = true
       ·rw [if_pos c96] at H
        have c96b0 : (t553 != t545) = true := c96
        (try (have c96b1 : decide (t553 = t545) = false := by simpa using c96))
        (try (have c96b2 : (t553 == t545) = false := by simpa using c96))
        (try (have c96b3 : ¬ (t553 = t545) := by simpa using c96))
        clear c96
        exact absurd H (by have hr_ := HRT.out; cases kj33 <;> simp [laws_FnWeightsMultiply.j3, hr_])
       rw [if_neg c96] at H
       have c96b0 : (t553 != t545) = false := by simpa using c96
       (try (have c96b1 : decide (t553 = t545) = true := by simpa using c96))
       (try (have c96b2 : (t553 == t545) = true := by simpa using c96))
       clear c96
       replace H := Option.bind_eq_some_iff.mp H
       obtain ⟨t557, A970, H⟩ := H
       (try dsimp only at H)
       have A97 := Aside0.mk A970
       clear A970
       have H' := Aside0.mk H
       clear H
       obtain ⟨Ao98, co98, eo98⟩ := Kd.R_slice HO547.out
       subst eo98
       obtain ⟨Ao99, co99, eo99⟩ := Kd.R_slice HO551.out
       subst eo99
       go_wp2_with (first | (go_at_call 21; (with_reducible refine (laws_iSame.calls kj33 _ _ t544 _ _ t548 true _ ?side1 ?side2 ?side3 ?side4 A94.out).mono ?_); (case side1 => exact xC ((Kd.R_reads' HO547.out).2.2)); (case side2 => exact (Kd.R_reads' HO547.out).2.1); (case side3 => exact xC ((Kd.R_reads' HO551.out).2.2)); (case side4 => exact (Kd.R_reads' HO551.out).2.1); rintro e w' ⟨rfl, ⟨nd, rfl⟩⟩; obtain ⟨Ao100, co100, eo100⟩ := Kd.R_slice HO555.out; subst eo100) | (go_at_call 21; (with_reducible refine (laws_iSame.calls kj33 _ _ t552 _ _ t544 t557 _ ?side1 ?side2 ?side3 ?side4 A97.out).mono ?_); (case side1 => exact xC ((Kd.R_reads' HO555.out).2.2)); (case side2 => exact (Kd.R_reads' HO555.out).2.1); (case side3 => exact xC ((Kd.R_reads' HO547.out).2.2)); (case side4 => exact (Kd.R_reads' HO547.out).2.1); rintro e w' ⟨rfl, ⟨nd, rfl⟩⟩))
       go_meet
       case rel => exact ⟨_, (!t557), (by first | rfl | (simp; done) | (simp [*]; done)), H', ⟨by have := HJ9.out; have := HJ33.out; first | omega | exact Nat.le_refl _⟩, ⟨by (with_reducible repeat (first | apply Kd.R_alloc | apply Kd.R_drewN | apply Kd.R_drew)); exact Kd.R_mono HO_6.out (fun _ hk => ⟨hk.1.1.1.1.2, ⟨hk.1.1.1.2, hk.1.1.2⟩⟩)⟩, ⟨by (with_reducible repeat (first | apply Kd.R_alloc | apply Kd.R_drewN | apply Kd.R_drew)); exact Kd.R_mono HO541.out (fun _ hk => ⟨hk.1.1.1.2, ⟨hk.1.1.1.1, hk.1.1.2⟩⟩)⟩, ⟨by (with_reducible repeat (first | apply Kd.R_alloc | apply Kd.R_drewN | apply Kd.R_drew)); exact Kd.R_mono HO543.out (fun _ hk => ⟨hk.1.1.1.2, ⟨hk.1.1.1.1, hk.1.1.2⟩⟩)⟩, ⟨by (with_reducible repeat (first | apply Kd.R_alloc | apply Kd.R_drewN | apply Kd.R_drew)); exact Kd.R_mono HO547.out (fun _ hk => ⟨hk.1.1.1.1.2, ⟨hk.1.1.1.2, hk.1.1.2⟩⟩)⟩, ⟨xB HB.out⟩⟩
     case rest => as_aux_lemma =>
      clear HC86
      obtain ⟨kq, x279_85, rfl, HA, HJ85, HO_6, HO_29, HO_30, HO_31, HB⟩ := hcut
      cases kq with
      | zero => exact absurd HA.out (by simp [laws_FnWeightsMultiply.j3])
      | succ kj85 =>
       have H := HA.out
       clear HA
       simp only [laws_FnWeightsMultiply.j3] at H
       by_cases c101 : x279_85 = true
       ·as_aux_lemma =>
         subst c101
         have H1 := H
         rw [if_pos rfl] at H1
         clear H
         have H := H1
         clear H1
         exact absurd ((Option.some.inj H).trans HRT.out) (by decide)
       replace c101 := Bool.eq_false_iff.mpr c101
       subst c101
       have H1 := H
       rw [if_neg (show ¬ (false = true) by decide)] at H1
       clear H
       have H := H1
       clear H1
       have HC102 := Aside0.mk H
       clear H
       go_upto_if 280 with (fail)
       go_cut [] (fun wc => ∃ (kq : Nat), Aside0 (laws_FnWeightsMultiply.j6 kq l1 = some r) ∧ Aside0 (kq ≤ kj85) ∧ Aside0 (Below w.heap.size w wc))
       case first => as_aux_lemma =>
        have H := HC102.out
        clear HC102
        by_cases c103 : t545 = true
        rotate_left
        ·as_aux_lemma =>
          replace c103 := Bool.eq_false_iff.mpr c103
          subst c103
          have H1 := H
          rw [if_neg (show ¬ (false = true) by decide)] at H1
          clear H
          have H := H1
          clear H1
          have H' := Aside0.mk H
          clear H
          go_wp2
          go_meet
          case rel => exact ⟨_, H', ⟨by have := HJ9.out; have := HJ33.out; have := HJ85.out; first | omega | exact Nat.le_refl _⟩, ⟨xB HB.out⟩⟩
        subst c103
        have H1 := H
        rw [if_pos rfl] at H1
        clear H
        have H := H1
        clear H1
        obtain ⟨y558, hy558⟩ : ∃ y_ : List Bool, y_ = (([false, true] : List Bool)) := ⟨_, rfl⟩
        replace H : (laws_FnWeightsMultiply.l0 kj85 l1 t487 t493 t538 t539 t544 y558 (y558.length : Int) 0) = some r := by first | (rw [hy558]; with_reducible exact H) | (have H2_ := (Option.bind_some _ _).symm.trans H; rw [hy558]; with_reducible exact H2_) | (have H2_ := (Option.bind_some _ _).symm.trans H; with_reducible exact H2_) | with_reducible exact H | (rw [hy558]; exact H) | exact H
        have Ny558 := Aside0.mk hy558
        clear hy558
        have H' := Aside0.mk H
        clear H
        go_wp2_with (first | ((with_reducible refine gate_dst (N := 281) rfl ?_); (try (refine gate_guard (by rfl) ?_; dsimp only)); refine Kd.R_lit Kd.bool _ 4 ?hg (N := 281) ?hd (xs := ([false, true] : List Bool)) (inner := [.bool false, .bool true]) (ok := fun _ => True) (okp := fun _ => True) ?hr ?hp (fun _ hk => hk) trivial (Below.refl _ _) (Nat.le_refl _) (by simp) ?_; (case hd => rfl); (case hg => rfl); (case hr => first | (go_simp; done) | (go_simp; rfl)); (case hp => exact (Reps.one (show Kd.M Kd.bool _ _ _ false [.bool false] from rfl) (Reps.one (show Kd.M Kd.bool _ _ _ true [.bool true] from rfl) (Reps.none _ _)))); intro v559 w104 ho105 hb hg_ hnew_; clear hg_ hnew_; (first | rw [← Ny558.out] at ho105 | (simp only [Int.reduceToNat] at ho105; rw [← Ny558.out] at ho105)); have n0_ := Aside0.mk (Kd.R_below (xR HO_6.out) hb); have n1_ := Aside0.mk (Kd.R_below (xR HO_29.out) hb); have n2_ := Aside0.mk (Kd.R_below (xR HO_30.out) hb); have n3_ := Aside0.mk (Kd.R_below (xR HO_31.out) hb); have n4_ := Aside0.mk (Kd.R_lower ho105 (below_size (xB HB.out))); have n5_ := Aside0.mk (below_step (xB HB.out) hb); clear HO_6; clear HO_29; clear HO_30; clear HO_31; clear HB; have HO_6 := n0_; have HO_29 := n1_; have HO_30 := n2_; have HO_31 := n3_; have HO560 := n4_; have HB := n5_; clear n0_ n1_ n2_ n3_ n4_ n5_; clear hb ho105; obtain ⟨Ao106, co106, eo106⟩ := Kd.R_slice HO560.out; subst eo106))
        go_loopg [283] kj85 (fun kq v283 w' => ∃ (x283_4 : Int), v283 = .int .i64 x283_4 ∧ Aside0 (laws_FnWeightsMultiply.l0 kq l1 t487 t493 t538 t539 t544 y558 (y558.length : Int) x283_4 = some r) ∧ Aside0 (kq ≤ kj85) ∧ Aside0 (Kd.R (Kd.int .i64) 3 w' w.heap.size (fun k_ => some k_ ≠ ((.slice Ao88 t538.length co88) : Value).ownBlock ∧ some k_ ≠ ((.slice Ao89 t539.length co89) : Value).ownBlock ∧ some k_ ≠ (v546 : Value).ownBlock) (.slice Ao13 t487.length co13) t487) ∧ Aside0 (Kd.R (Kd.int .i64) 3 w' w.heap.size (fun k_ => some k_ ≠ ((.slice Ao13 t487.length co13) : Value).ownBlock ∧ some k_ ≠ ((.slice Ao89 t539.length co89) : Value).ownBlock ∧ some k_ ≠ (v546 : Value).ownBlock) (.slice Ao88 t538.length co88) t538) ∧ Aside0 (Kd.R (Kd.int .i64) 3 w' w.heap.size (fun k_ => some k_ ≠ ((.slice Ao13 t487.length co13) : Value).ownBlock ∧ some k_ ≠ ((.slice Ao88 t538.length co88) : Value).ownBlock ∧ some k_ ≠ (v546 : Value).ownBlock) (.slice Ao89 t539.length co89) t539) ∧ Aside0 (Kd.R (Kd.int .i64) 3 w' w.heap.size (fun k_ => some k_ ≠ ((.slice Ao13 t487.length co13) : Value).ownBlock ∧ some k_ ≠ ((.slice Ao88 t538.length co88) : Value).ownBlock ∧ some k_ ≠ ((.slice Ao89 t539.length co89) : Value).ownBlock) v546 t544) ∧ Aside0 (Kd.R Kd.bool 4 w' w.heap.size (fun _ => True) (.slice Ao106 y558.length co106) y558) ∧ Aside0 (Below w.heap.size w w'))
        case atStart => exact ⟨(0), (by first | rfl | (simp; done) | (simp [*]; done)), H', ⟨Nat.le_refl _⟩, ⟨xR HO_6.out⟩, ⟨xR HO_29.out⟩, ⟨xR HO_30.out⟩, ⟨xR HO_31.out⟩, ⟨xR HO560.out⟩, ⟨xB HB.out⟩⟩
        case round =>
         clear H'
         try clear c101
         try clear c103
         obtain ⟨x283_4, rfl, HA, HK4, HO_6, HO_29, HO_30, HO_31, HO_281, HB⟩ := hrel
         cases gk with
         | zero => exact absurd HA.out (by simp [laws_FnWeightsMultiply.l0])
         | succ k4 =>
          have H := HA.out
          clear HA
          simp only [laws_FnWeightsMultiply.l0] at H
          by_cases c107 : x283_4 < (y558.length : Int)
          ·rw [if_pos c107] at H
           have c107b0 : decide (x283_4 < (y558.length : Int)) = true := decide_eq_true c107
           clear c107
           (first | rw [c107b0] | (simp only [i64_w, i32_w]; rw [c107b0]) | skip)
           by_cases c108 : 0 ≤ x283_4
           rotate_left
           ·rw [if_neg c108] at H
            exact absurd H (by simp)
           rw [if_pos c108] at H
           have c108b0 : decide (0 ≤ x283_4) = true := decide_eq_true c108
           clear c108
           by_cases c109 : x283_4 < (y558.length : Int)
           rotate_left
           ·rw [if_neg c109] at H
            exact absurd H (by simp)
           rw [if_pos c109] at H
           have c109b0 : decide (x283_4 < (y558.length : Int)) = true := decide_eq_true c109
           clear c109
           replace H := Option.bind_eq_some_iff.mp H
           obtain ⟨⟨t562, t563⟩, A1100, H⟩ := H
           (try dsimp only at H)
           have A110 := Aside0.mk A1100
           clear A1100
           replace H := Option.bind_eq_some_iff.mp H
           obtain ⟨⟨t564, t565⟩, A1110, H⟩ := H
           (try dsimp only at H)
           have A111 := Aside0.mk A1110
           clear A1110
           replace H := Option.bind_eq_some_iff.mp H
           obtain ⟨⟨t566, t567⟩, A1120, H⟩ := H
           (try dsimp only at H)
           have A112 := Aside0.mk A1120
           clear A1120
           obtain ⟨bq113, hbq113⟩ : ∃ b_ : Bool, b_ = (rdOf false y558 x283_4) := ⟨_, rfl⟩
           replace H : (if bq113 = true then ((impl_GainAtHalf.f k4 t538).bind fun bt568 => ((impl_GainAtHalf.f k4 t539).bind fun bt570 => ((impl_GainAtHalf.f k4 t544).bind fun bt572 => (if bt568.2 = true then (if bt570.2 = true then (if bt572.2 = true then (if (wrap64 (bt568.1 * bt570.1)) = bt572.1 then (laws_FnWeightsMultiply.l0 k4 l1 t487 t493 t538 t539 t544 y558 (y558.length : Int) (wrap64 (x283_4 + 1))) else (some false)) else (some false)) else (some false)) else (some false))))) else (if t563 = true then (if t565 = true then (if t567 = true then (if (wrap64 (t562 * t564)) = t566 then (laws_FnWeightsMultiply.l0 k4 l1 t487 t493 t538 t539 t544 y558 (y558.length : Int) (wrap64 (x283_4 + 1))) else (some false)) else (some false)) else (some false)) else (some false))) = some r := by rw [← hbq113] at H; exact H
           have Nbq113 := Aside0.mk hbq113
           clear hbq113
           by_cases c114 : bq113 = true
           rotate_left
           ·replace c114 := Bool.eq_false_iff.mpr c114
            subst c114
            have H1 := H
            rw [if_neg (show ¬ (false = true) by decide)] at H1
            clear H
            have H := H1
            clear H1
            by_cases c123 : t563 = true
            rotate_left
            ·as_aux_lemma =>
              replace c123 := Bool.eq_false_iff.mpr c123
              subst c123
              have H1 := H
              rw [if_neg (show ¬ (false = true) by decide)] at H1
              clear H
              have H := H1
              clear H1
              exact absurd ((Option.some.inj H).trans HRT.out) (by decide)
            as_aux_lemma =>
             subst c123
             have H1 := H
             rw [if_pos rfl] at H1
             clear H
             have H := H1
             clear H1
             by_cases c124 : t565 = true
             rotate_left
             ·replace c124 := Bool.eq_false_iff.mpr c124
              subst c124
              have H1 := H
              rw [if_neg (show ¬ (false = true) by decide)] at H1
              clear H
              have H := H1
              clear H1
              exact absurd ((Option.some.inj H).trans HRT.out) (by decide)
             subst c124
             have H1 := H
             rw [if_pos rfl] at H1
             clear H
             have H := H1
             clear H1
             by_cases c125 : t567 = true
             rotate_left
             ·replace c125 := Bool.eq_false_iff.mpr c125
              subst c125
              have H1 := H
              rw [if_neg (show ¬ (false = true) by decide)] at H1
              clear H
              have H := H1
              clear H1
              exact absurd ((Option.some.inj H).trans HRT.out) (by decide)
             subst c125
             have H1 := H
             rw [if_pos rfl] at H1
             clear H
             have H := H1
             clear H1
             by_cases c126 : (wrap64 (t562 * t564)) = t566
             rotate_left
             ·rw [if_neg c126] at H
              have c126b0 : ((wrap64 (t562 * t564)) == t566) = false := beq_eq_false_iff_ne.mpr c126
              have c126b1 : ((wrap64 (t562 * t564)) != t566) = true := bne_iff_ne.mpr c126
              exact absurd ((Option.some.inj H).trans HRT.out) (by decide)
             rw [if_pos c126] at H
             have c126b0 : ((wrap64 (t562 * t564)) == t566) = true := beq_iff_eq.mpr c126
             have c126b1 : ((wrap64 (t562 * t564)) != t566) = false := bne_eq_false_iff_eq.mpr c126
             clear c126
             have H' := Aside0.mk H
             clear H
             have p561 : 0 ≤ (x283_4 : Int) := of_decide_eq_true (by first | (with_reducible assumption) | assumption)
             have q561 : x283_4 < (y558.length : Int) := of_decide_eq_true (by first | (with_reducible assumption) | assumption)
             obtain ⟨ad561, e561, hx561_0⟩ := Kd.at_bool (Kd.R_reads' HO_281.out).2.2 x283_4 p561 q561
             (try rw [← Nbq113.out] at hx561_0)
             cases e561
             replace p561 := eq_true p561
             replace q561 := eq_true q561
             go_wp2_with (first | ((with_reducible refine gate_callee (f := 72) rfl ?_); refine goesL_ (some 289) rfl rfl Try.func72 (by kernel_rfl) rfl #[.slice Ao88 t538.length co88] rfl (by (try simp only [List.map_toArray, List.map_cons, List.map_nil]); first | done | rfl | (simp only [List.length_drop, List.length_take]; rfl)) ?_; (with_reducible refine (impl_GainOf.calls k4 _ _ t538 t562 true _ ?side1 ?side2 A110.out).mono ?_); (case side1 => exact xC ((Kd.R_reads' HO_29.out).2.2)); (case side2 => exact (Kd.R_reads' HO_29.out).2.1); rintro e w' ⟨rfl, ⟨nd, rfl⟩⟩; refine ⟨_, rfl, ?_⟩) | ((with_reducible refine gate_callee (f := 72) rfl ?_); refine goesL_ (some 294) rfl rfl Try.func72 (by kernel_rfl) rfl #[.slice Ao89 t539.length co89] rfl (by (try simp only [List.map_toArray, List.map_cons, List.map_nil]); first | done | rfl | (simp only [List.length_drop, List.length_take]; rfl)) ?_; (with_reducible refine (impl_GainOf.calls k4 _ _ t539 t564 true _ ?side1 ?side2 A111.out).mono ?_); (case side1 => exact xC ((Kd.R_reads' HO_30.out).2.2)); (case side2 => exact (Kd.R_reads' HO_30.out).2.1); rintro e w' ⟨rfl, ⟨nd, rfl⟩⟩; refine ⟨_, rfl, ?_⟩; obtain ⟨Ao127, co127, eo127⟩ := Kd.R_slice HO_31.out; subst eo127) | ((with_reducible refine gate_callee (f := 72) rfl ?_); refine goesL_ (some 299) rfl rfl Try.func72 (by kernel_rfl) rfl #[.slice Ao127 t544.length co127] rfl (by (try simp only [List.map_toArray, List.map_cons, List.map_nil]); first | done | rfl | (simp only [List.length_drop, List.length_take]; rfl)) ?_; (with_reducible refine (impl_GainOf.calls k4 _ _ t544 t566 true _ ?side1 ?side2 A112.out).mono ?_); (case side1 => exact xC ((Kd.R_reads' HO_31.out).2.2)); (case side2 => exact (Kd.R_reads' HO_31.out).2.1); rintro e w' ⟨rfl, ⟨nd, rfl⟩⟩; refine ⟨_, rfl, ?_⟩))
             go_roundg k4
             case measure => have := HJ9.out; have := HJ33.out; have := HJ85.out; have := HK4.out; omega
             case rel => exact ⟨(wrap64 (x283_4 + 1)), (by first | rfl | (simp; done) | (simp [*]; done)), H', ⟨by have := HJ9.out; have := HJ33.out; have := HJ85.out; have := HK4.out; omega⟩, ⟨xR HO_6.out⟩, ⟨xR HO_29.out⟩, ⟨xR HO_30.out⟩, ⟨xR HO_31.out⟩, ⟨xR HO_281.out⟩, ⟨xB HB.out⟩⟩
           subst c114
           have H1 := H
           rw [if_pos rfl] at H1
           clear H
           have H := H1
           clear H1
           replace H := Option.bind_eq_some_iff.mp H
           obtain ⟨⟨t568, t569⟩, A1150, H⟩ := H
           (try dsimp only at H)
           have A115 := Aside0.mk A1150
           clear A1150
           replace H := Option.bind_eq_some_iff.mp H
           obtain ⟨⟨t570, t571⟩, A1160, H⟩ := H
           (try dsimp only at H)
           have A116 := Aside0.mk A1160
           clear A1160
           replace H := Option.bind_eq_some_iff.mp H
           obtain ⟨⟨t572, t573⟩, A1170, H⟩ := H
           (try dsimp only at H)
           have A117 := Aside0.mk A1170
           clear A1170
           by_cases c118 : t569 = true
           rotate_left
           ·as_aux_lemma =>
             replace c118 := Bool.eq_false_iff.mpr c118
             subst c118
             have H1 := H
             rw [if_neg (show ¬ (false = true) by decide)] at H1
             clear H
             have H := H1
             clear H1
             exact absurd ((Option.some.inj H).trans HRT.out) (by decide)
           as_aux_lemma =>
            subst c118
            have H1 := H
            rw [if_pos rfl] at H1
            clear H
            have H := H1
            clear H1
            by_cases c119 : t571 = true
            rotate_left
            ·replace c119 := Bool.eq_false_iff.mpr c119
             subst c119
             have H1 := H
             rw [if_neg (show ¬ (false = true) by decide)] at H1
             clear H
             have H := H1
             clear H1
             exact absurd ((Option.some.inj H).trans HRT.out) (by decide)
            subst c119
            have H1 := H
            rw [if_pos rfl] at H1
            clear H
            have H := H1
            clear H1
            by_cases c120 : t573 = true
            rotate_left
            ·replace c120 := Bool.eq_false_iff.mpr c120
             subst c120
             have H1 := H
             rw [if_neg (show ¬ (false = true) by decide)] at H1
             clear H
             have H := H1
             clear H1
             exact absurd ((Option.some.inj H).trans HRT.out) (by decide)
            subst c120
            have H1 := H
            rw [if_pos rfl] at H1
            clear H
            have H := H1
            clear H1
            by_cases c121 : (wrap64 (t568 * t570)) = t572
            rotate_left
            ·rw [if_neg c121] at H
             have c121b0 : ((wrap64 (t568 * t570)) == t572) = false := beq_eq_false_iff_ne.mpr c121
             have c121b1 : ((wrap64 (t568 * t570)) != t572) = true := bne_iff_ne.mpr c121
             exact absurd ((Option.some.inj H).trans HRT.out) (by decide)
            rw [if_pos c121] at H
            have c121b0 : ((wrap64 (t568 * t570)) == t572) = true := beq_iff_eq.mpr c121
            have c121b1 : ((wrap64 (t568 * t570)) != t572) = false := bne_eq_false_iff_eq.mpr c121
            clear c121
            have H' := Aside0.mk H
            clear H
            have p561 : 0 ≤ (x283_4 : Int) := of_decide_eq_true (by first | (with_reducible assumption) | assumption)
            have q561 : x283_4 < (y558.length : Int) := of_decide_eq_true (by first | (with_reducible assumption) | assumption)
            obtain ⟨ad561, e561, hx561_0⟩ := Kd.at_bool (Kd.R_reads' HO_281.out).2.2 x283_4 p561 q561
            (try rw [← Nbq113.out] at hx561_0)
            cases e561
            replace p561 := eq_true p561
            replace q561 := eq_true q561
            go_wp2_with (first | ((with_reducible refine gate_callee (f := 72) rfl ?_); refine goesL_ (some 289) rfl rfl Try.func72 (by kernel_rfl) rfl #[.slice Ao88 t538.length co88] rfl (by (try simp only [List.map_toArray, List.map_cons, List.map_nil]); first | done | rfl | (simp only [List.length_drop, List.length_take]; rfl)) ?_; (with_reducible refine (impl_GainOf.calls k4 _ _ t538 t562 t563 _ ?side1 ?side2 A110.out).mono ?_); (case side1 => exact xC ((Kd.R_reads' HO_29.out).2.2)); (case side2 => exact (Kd.R_reads' HO_29.out).2.1); rintro e w' ⟨rfl, ⟨nd, rfl⟩⟩; refine ⟨_, rfl, ?_⟩) | ((with_reducible refine gate_callee (f := 72) rfl ?_); refine goesL_ (some 294) rfl rfl Try.func72 (by kernel_rfl) rfl #[.slice Ao89 t539.length co89] rfl (by (try simp only [List.map_toArray, List.map_cons, List.map_nil]); first | done | rfl | (simp only [List.length_drop, List.length_take]; rfl)) ?_; (with_reducible refine (impl_GainOf.calls k4 _ _ t539 t564 t565 _ ?side1 ?side2 A111.out).mono ?_); (case side1 => exact xC ((Kd.R_reads' HO_30.out).2.2)); (case side2 => exact (Kd.R_reads' HO_30.out).2.1); rintro e w' ⟨rfl, ⟨nd, rfl⟩⟩; refine ⟨_, rfl, ?_⟩; obtain ⟨Ao122, co122, eo122⟩ := Kd.R_slice HO_31.out; subst eo122) | ((with_reducible refine gate_callee (f := 72) rfl ?_); refine goesL_ (some 299) rfl rfl Try.func72 (by kernel_rfl) rfl #[.slice Ao122 t544.length co122] rfl (by (try simp only [List.map_toArray, List.map_cons, List.map_nil]); first | done | rfl | (simp only [List.length_drop, List.length_take]; rfl)) ?_; (with_reducible refine (impl_GainOf.calls k4 _ _ t544 t566 t567 _ ?side1 ?side2 A112.out).mono ?_); (case side1 => exact xC ((Kd.R_reads' HO_31.out).2.2)); (case side2 => exact (Kd.R_reads' HO_31.out).2.1); rintro e w' ⟨rfl, ⟨nd, rfl⟩⟩; refine ⟨_, rfl, ?_⟩) | ((with_reducible refine gate_callee (f := 79) rfl ?_); refine goesL_ (some 305) rfl rfl Try.func79 (by kernel_rfl) rfl #[.slice Ao88 t538.length co88] rfl (by (try simp only [List.map_toArray, List.map_cons, List.map_nil]); first | done | rfl | (simp only [List.length_drop, List.length_take]; rfl)) ?_; (with_reducible refine (impl_GainAtHalf.calls k4 _ _ t538 t568 true _ ?side1 ?side2 A115.out).mono ?_); (case side1 => exact xC ((Kd.R_reads' HO_29.out).2.2)); (case side2 => exact (Kd.R_reads' HO_29.out).2.1); rintro e w' ⟨rfl, ⟨nd, rfl⟩⟩; refine ⟨_, rfl, ?_⟩) | ((with_reducible refine gate_callee (f := 79) rfl ?_); refine goesL_ (some 310) rfl rfl Try.func79 (by kernel_rfl) rfl #[.slice Ao89 t539.length co89] rfl (by (try simp only [List.map_toArray, List.map_cons, List.map_nil]); first | done | rfl | (simp only [List.length_drop, List.length_take]; rfl)) ?_; (with_reducible refine (impl_GainAtHalf.calls k4 _ _ t539 t570 true _ ?side1 ?side2 A116.out).mono ?_); (case side1 => exact xC ((Kd.R_reads' HO_30.out).2.2)); (case side2 => exact (Kd.R_reads' HO_30.out).2.1); rintro e w' ⟨rfl, ⟨nd, rfl⟩⟩; refine ⟨_, rfl, ?_⟩) | ((with_reducible refine gate_callee (f := 79) rfl ?_); refine goesL_ (some 315) rfl rfl Try.func79 (by kernel_rfl) rfl #[.slice Ao122 t544.length co122] rfl (by (try simp only [List.map_toArray, List.map_cons, List.map_nil]); first | done | rfl | (simp only [List.length_drop, List.length_take]; rfl)) ?_; (with_reducible refine (impl_GainAtHalf.calls k4 _ _ t544 t572 true _ ?side1 ?side2 A117.out).mono ?_); (case side1 => exact xC ((Kd.R_reads' HO_31.out).2.2)); (case side2 => exact (Kd.R_reads' HO_31.out).2.1); rintro e w' ⟨rfl, ⟨nd, rfl⟩⟩; refine ⟨_, rfl, ?_⟩))
            go_roundg k4
            case measure => have := HJ9.out; have := HJ33.out; have := HJ85.out; have := HK4.out; omega
            case rel => exact ⟨(wrap64 (x283_4 + 1)), (by first | rfl | (simp; done) | (simp [*]; done)), H', ⟨by have := HJ9.out; have := HJ33.out; have := HJ85.out; have := HK4.out; omega⟩, ⟨xR HO_6.out⟩, ⟨xR HO_29.out⟩, ⟨xR HO_30.out⟩, ⟨xR HO_31.out⟩, ⟨xR HO_281.out⟩, ⟨xB HB.out⟩⟩
          rw [if_neg c107] at H
          have c107b0 : decide (x283_4 < (y558.length : Int)) = false := decide_eq_false c107
          clear c107
          (first | rw [c107b0] | (simp only [i64_w, i32_w]; rw [c107b0]) | skip)
          by_cases c128 : 0 < (t539.length : Int)
          rotate_left
          ·rw [if_neg c128] at H
           exact absurd H (by simp)
          rw [if_pos c128] at H
          have c128b0 : decide (0 < (t539.length : Int)) = true := decide_eq_true c128
          have c128b1 : decide (0 < t539.length) = true := decide_eq_true (by omega)
          clear c128
          have HC129 := Aside0.mk H
          clear H
          have p574 : 0 ≤ (0 : Int) := (by omega)
          have q574 : 0 < (t539.length : Int) := of_decide_eq_true (by first | (with_reducible assumption) | assumption)
          obtain ⟨ad574, e574, hx574_0⟩ := Kd.at_int (Kd.R_reads' HO_30.out).2.2 0 p574 q574
          cases e574
          have qi574 : (0 < t539.length) = True := eq_true (by omega)
          (try rw [show ((0 : Int)).toNat = 0 from rfl] at hx574_0)
          (try rw [Addr.add_zero'] at hx574_0)
          replace p574 := eq_true p574
          replace q574 := eq_true q574
          go_upto_if 339 with (fail)
          go_cut [] (fun wc => ∃ (kq : Nat), Aside0 (laws_FnWeightsMultiply.j5 kq l1 t487 t493 t538 t539 t544 = some r) ∧ Aside0 (kq ≤ k4) ∧ Aside0 (Kd.R (Kd.int .i64) 3 wc w.heap.size (fun k_ => some k_ ≠ ((.slice Ao88 t538.length co88) : Value).ownBlock ∧ some k_ ≠ ((.slice (some ad574) t539.length co89) : Value).ownBlock ∧ some k_ ≠ (v546 : Value).ownBlock) (.slice Ao13 t487.length co13) t487) ∧ Aside0 (Kd.R (Kd.int .i64) 3 wc w.heap.size (fun k_ => some k_ ≠ ((.slice Ao13 t487.length co13) : Value).ownBlock ∧ some k_ ≠ ((.slice (some ad574) t539.length co89) : Value).ownBlock ∧ some k_ ≠ (v546 : Value).ownBlock) (.slice Ao88 t538.length co88) t538) ∧ Aside0 (Kd.R (Kd.int .i64) 3 wc w.heap.size (fun k_ => some k_ ≠ ((.slice Ao13 t487.length co13) : Value).ownBlock ∧ some k_ ≠ ((.slice Ao88 t538.length co88) : Value).ownBlock ∧ some k_ ≠ (v546 : Value).ownBlock) (.slice (some ad574) t539.length co89) t539) ∧ Aside0 (Kd.R (Kd.int .i64) 3 wc w.heap.size (fun k_ => some k_ ≠ ((.slice Ao13 t487.length co13) : Value).ownBlock ∧ some k_ ≠ ((.slice Ao88 t538.length co88) : Value).ownBlock ∧ some k_ ≠ ((.slice (some ad574) t539.length co89) : Value).ownBlock) v546 t544) ∧ Aside0 (Below w.heap.size w wc))
          case first => as_aux_lemma =>
           have H := HC129.out
           clear HC129
           by_cases c130 : (rd t539 0) = 0
           ·as_aux_lemma =>
             rw [if_pos c130] at H
             have c130b0 : ((rd t539 0) == 0) = true := beq_iff_eq.mpr c130
             have c130b1 : ((rd t539 0) != 0) = false := bne_eq_false_iff_eq.mpr c130
             clear c130
             (first | rw [c130b0] | (simp only [i64_w, i32_w]; rw [c130b0]) | skip)
             have H' := Aside0.mk H
             clear H
             go_wp2
             go_meet
             case rel => exact ⟨_, H', ⟨by have := HJ9.out; have := HJ33.out; have := HJ85.out; have := HK4.out; first | omega | exact Nat.le_refl _⟩, ⟨xR HO_6.out⟩, ⟨xR HO_29.out⟩, ⟨xR HO_30.out⟩, ⟨xR HO_31.out⟩, ⟨xB HB.out⟩⟩
           as_aux_lemma =>
            rw [if_neg c130] at H
            have c130b0 : ((rd t539 0) == 0) = false := beq_eq_false_iff_ne.mpr c130
            have c130b1 : ((rd t539 0) != 0) = true := bne_iff_ne.mpr c130
            (first | rw [c130b0] | (simp only [i64_w, i32_w]; rw [c130b0]) | skip)
            replace H := Option.bind_eq_some_iff.mp H
            obtain ⟨⟨t575, t576⟩, A1310, H⟩ := H
            (try dsimp only at H)
            have A131 := Aside0.mk A1310
            clear A1310
            by_cases c132 : t576 = true
            rotate_left
            ·replace c132 := Bool.eq_false_iff.mpr c132
             subst c132
             have H1 := H
             rw [if_neg (show ¬ (false = true) by decide)] at H1
             clear H
             have H := H1
             clear H1
             exact absurd ((Option.some.inj H).trans HRT.out) (by decide)
            subst c132
            have H1 := H
            rw [if_pos rfl] at H1
            clear H
            have H := H1
            clear H1
            replace H := Option.bind_eq_some_iff.mp H
            obtain ⟨t579, A1330, H⟩ := H
            (try dsimp only at H)
            have A133 := Aside0.mk A1330
            clear A1330
            by_cases c134 : t579 = true
            rotate_left
            ·replace c134 := Bool.eq_false_iff.mpr c134
             subst c134
             have H1 := H
             rw [if_neg (show ¬ (false = true) by decide)] at H1
             clear H
             have H := H1
             clear H1
             exact absurd ((Option.some.inj H).trans HRT.out) (by decide)
            subst c134
            have H1 := H
            rw [if_pos rfl] at H1
            clear H
            have H := H1
            clear H1
            have H' := Aside0.mk H
            clear H
            obtain ⟨Ao135, co135, eo135⟩ := Kd.R_slice HO_31.out
            subst eo135
            go_wp2_with (first | ((with_reducible refine gate_callee (f := 80) rfl ?_); refine goesL_ (some 343) rfl rfl Try.func80 (by kernel_rfl) rfl #[.slice Ao135 t544.length co135, .slice (some ad574) t539.length co89] rfl (by (try simp only [List.map_toArray, List.map_cons, List.map_nil]); first | done | rfl | (simp only [List.length_drop, List.length_take]; rfl)) ?_; (with_reducible refine (impl_DivideWeights.calls k4 _ _ t544 _ _ t539 t575 true _ ?side1 ?side2 ?side3 ?side4 A131.out).mono ?_); (case side1 => exact xC ((Kd.R_reads' HO_31.out).2.2)); (case side2 => exact (Kd.R_reads' HO_31.out).2.1); (case side3 => exact xC ((Kd.R_reads' HO_30.out).2.2)); (case side4 => exact (Kd.R_reads' HO_30.out).2.1); rintro e w136 ⟨v577, rfl, ho0, hb⟩; refine ⟨_, rfl, ?_⟩; have n0_ := Aside0.mk (Kd.R_elder' (xR HO_6.out) (Kd.R_base ho0) hb); have n1_ := Aside0.mk (Kd.R_elder' (xR HO_29.out) (Kd.R_base ho0) hb); have n2_ := Aside0.mk (Kd.R_elder' (xR HO_30.out) (Kd.R_base ho0) hb); have n3_ := Aside0.mk (Kd.R_elder' (xR HO_31.out) (Kd.R_base ho0) hb); have n4_ := Aside0.mk (Kd.R_below (xR HO_281.out) hb); have n5_ := Aside0.mk (Kd.R_lower (Kd.R_new' (Kd.R_new' (Kd.R_new' (Kd.R_new' ho0 (Kd.R_lt (xR HO_6.out))) (Kd.R_lt (xR HO_29.out))) (Kd.R_lt (xR HO_30.out))) (Kd.R_lt (xR HO_31.out))) (below_size (xB HB.out))); have n6_ := Aside0.mk (below_step (xB HB.out) hb); clear HO_6; clear HO_29; clear HO_30; clear HO_31; clear HO_281; clear HB; have HO_6 := n0_; have HO_29 := n1_; have HO_30 := n2_; have HO_31 := n3_; have HO_281 := n4_; have HO578 := n5_; have HB := n6_; clear n0_ n1_ n2_ n3_ n4_ n5_ n6_; (try clear hb); (try clear hb2); (try clear hk); (try clear hi); (try clear ho0); obtain ⟨Ao137, co137, eo137⟩ := Kd.R_slice HO578.out; subst eo137) | (go_at_call 21; (with_reducible refine (laws_iSame.calls k4 _ _ t575 _ _ t538 true _ ?side1 ?side2 ?side3 ?side4 A133.out).mono ?_); (case side1 => exact xC ((Kd.R_reads' HO578.out).2.2)); (case side2 => exact (Kd.R_reads' HO578.out).2.1); (case side3 => exact xC ((Kd.R_reads' HO_29.out).2.2)); (case side4 => exact (Kd.R_reads' HO_29.out).2.1); rintro e w' ⟨rfl, ⟨nd, rfl⟩⟩))
            go_meet
            case rel => exact ⟨_, H', ⟨by have := HJ9.out; have := HJ33.out; have := HJ85.out; have := HK4.out; first | omega | exact Nat.le_refl _⟩, ⟨by (with_reducible repeat (first | apply Kd.R_alloc | apply Kd.R_drewN | apply Kd.R_drew)); exact Kd.R_mono HO_6.out (fun _ hk => ⟨hk.1.1, ⟨hk.1.2.1, hk.1.2.2⟩⟩)⟩, ⟨by (with_reducible repeat (first | apply Kd.R_alloc | apply Kd.R_drewN | apply Kd.R_drew)); exact Kd.R_mono HO_29.out (fun _ hk => ⟨hk.1.1, ⟨hk.1.2.1, hk.1.2.2⟩⟩)⟩, ⟨by (with_reducible repeat (first | apply Kd.R_alloc | apply Kd.R_drewN | apply Kd.R_drew)); exact Kd.R_mono HO_30.out (fun _ hk => ⟨hk.1.1, ⟨hk.1.2.1, hk.1.2.2⟩⟩)⟩, ⟨by (with_reducible repeat (first | apply Kd.R_alloc | apply Kd.R_drewN | apply Kd.R_drew)); exact Kd.R_mono HO_31.out (fun _ hk => ⟨hk.1.1, ⟨hk.1.2.1, hk.1.2.2⟩⟩)⟩, ⟨xB HB.out⟩⟩
          case rest => as_aux_lemma =>
           clear HC129
           try clear c107b0
           try clear c128b0
           try clear c128b1
           try clear hx574_0
           try clear p574
           try clear q574
           obtain ⟨kq, HA, HJ128, HO_6, HO_29, HO_30, HO_31, HB⟩ := hcut
           cases kq with
           | zero => exact absurd HA.out (by simp [laws_FnWeightsMultiply.j5])
           | succ kj128 =>
            have H := HA.out
            clear HA
            simp only [laws_FnWeightsMultiply.j5] at H
            by_cases c138 : t493 = true
            rotate_left
            ·as_aux_lemma =>
              replace c138 := Bool.eq_false_iff.mpr c138
              subst c138
              have H1 := H
              rw [if_neg (show ¬ (false = true) by decide)] at H1
              clear H
              have H := H1
              clear H1
              have H' := Aside0.mk H
              clear H
              go_wp2
              go_meet
              case rel => exact ⟨_, H', ⟨by have := HJ9.out; have := HJ33.out; have := HJ85.out; have := HK4.out; have := HJ128.out; first | omega | exact Nat.le_refl _⟩, ⟨xB HB.out⟩⟩
            subst c138
            have H1 := H
            rw [if_pos rfl] at H1
            clear H
            have H := H1
            clear H1
            replace H := Option.bind_eq_some_iff.mp H
            obtain ⟨⟨t580, t581⟩, A1390, H⟩ := H
            (try dsimp only at H)
            have A139 := Aside0.mk A1390
            clear A1390
            replace H := Option.bind_eq_some_iff.mp H
            obtain ⟨⟨t584, t585⟩, A1400, H⟩ := H
            (try dsimp only at H)
            have A140 := Aside0.mk A1400
            clear A1400
            replace H := Option.bind_eq_some_iff.mp H
            obtain ⟨⟨t588, t589⟩, A1410, H⟩ := H
            (try dsimp only at H)
            have A141 := Aside0.mk A1410
            clear A1410
            by_cases c142 : t581 = true
            rotate_left
            ·as_aux_lemma =>
              replace c142 := Bool.eq_false_iff.mpr c142
              subst c142
              have H1 := H
              rw [if_neg (show ¬ (false = true) by decide)] at H1
              clear H
              have H := H1
              clear H1
              have H' := Aside0.mk H
              clear H
              go_wp2_with (first | ((with_reducible refine gate_callee (f := 69) rfl ?_); refine goesL_ (some 358) rfl rfl Try.func69 (by kernel_rfl) rfl #[.slice Ao88 t538.length co88, .slice Ao13 t487.length co13] rfl (by (try simp only [List.map_toArray, List.map_cons, List.map_nil]); first | done | rfl | (simp only [List.length_drop, List.length_take]; rfl)) ?_; (with_reducible refine (impl_FilterSignal.calls kj128 _ _ t538 _ _ t487 t580 false _ ?side1 ?side2 ?side3 ?side4 A139.out).mono ?_); (case side1 => exact xC ((Kd.R_reads' HO_29.out).2.2)); (case side2 => exact (Kd.R_reads' HO_29.out).2.1); (case side3 => exact xC ((Kd.R_reads' HO_6.out).2.2)); (case side4 => exact (Kd.R_reads' HO_6.out).2.1); rintro e w164 ⟨v582, rfl, ho0, hb⟩; refine ⟨_, rfl, ?_⟩; have n0_ := Aside0.mk (Kd.R_elder' (xR HO_6.out) (Kd.R_base ho0) hb); have n1_ := Aside0.mk (Kd.R_elder' (xR HO_29.out) (Kd.R_base ho0) hb); have n2_ := Aside0.mk (Kd.R_elder' (xR HO_30.out) (Kd.R_base ho0) hb); have n3_ := Aside0.mk (Kd.R_elder' (xR HO_31.out) (Kd.R_base ho0) hb); have n4_ := Aside0.mk (Kd.R_lower (Kd.R_new' (Kd.R_new' (Kd.R_new' (Kd.R_new' ho0 (Kd.R_lt (xR HO_6.out))) (Kd.R_lt (xR HO_29.out))) (Kd.R_lt (xR HO_30.out))) (Kd.R_lt (xR HO_31.out))) (below_size (xB HB.out))); have n5_ := Aside0.mk (below_step (xB HB.out) hb); clear HO_6; clear HO_29; clear HO_30; clear HO_31; clear HB; have HO_6 := n0_; have HO_29 := n1_; have HO_30 := n2_; have HO_31 := n3_; have HO583 := n4_; have HB := n5_; clear n0_ n1_ n2_ n3_ n4_ n5_; (try clear hb); (try clear hb2); (try clear hk); (try clear hi); (try clear ho0); obtain ⟨Ao165, co165, eo165⟩ := Kd.R_slice HO583.out; subst eo165) | ((with_reducible refine gate_callee (f := 69) rfl ?_); refine goesL_ (some 364) rfl rfl Try.func69 (by kernel_rfl) rfl #[.slice (some ad574) t539.length co89, .slice Ao165 t580.length co165] rfl (by (try simp only [List.map_toArray, List.map_cons, List.map_nil]); first | done | rfl | (simp only [List.length_drop, List.length_take]; rfl)) ?_; (with_reducible refine (impl_FilterSignal.calls kj128 _ _ t539 _ _ t580 t584 t585 _ ?side1 ?side2 ?side3 ?side4 A140.out).mono ?_); (case side1 => exact xC ((Kd.R_reads' HO_30.out).2.2)); (case side2 => exact (Kd.R_reads' HO_30.out).2.1); (case side3 => exact xC ((Kd.R_reads' HO583.out).2.2)); (case side4 => exact (Kd.R_reads' HO583.out).2.1); rintro e w166 ⟨v586, rfl, ho0, hb⟩; refine ⟨_, rfl, ?_⟩; have n0_ := Aside0.mk (Kd.R_elder' (xR HO_6.out) (Kd.R_base ho0) hb); have n1_ := Aside0.mk (Kd.R_elder' (xR HO_29.out) (Kd.R_base ho0) hb); have n2_ := Aside0.mk (Kd.R_elder' (xR HO_30.out) (Kd.R_base ho0) hb); have n3_ := Aside0.mk (Kd.R_elder' (xR HO_31.out) (Kd.R_base ho0) hb); have n4_ := Aside0.mk (Kd.R_elder' (xR HO583.out) (Kd.R_base ho0) hb); have n5_ := Aside0.mk (Kd.R_lower (Kd.R_new' (Kd.R_new' (Kd.R_new' (Kd.R_new' (Kd.R_new' ho0 (Kd.R_lt (xR HO_6.out))) (Kd.R_lt (xR HO_29.out))) (Kd.R_lt (xR HO_30.out))) (Kd.R_lt (xR HO_31.out))) (Kd.R_lt (xR HO583.out))) (below_size (xB HB.out))); have n6_ := Aside0.mk (below_step (xB HB.out) hb); clear HO_6; clear HO_29; clear HO_30; clear HO_31; clear HO583; clear HB; have HO_6 := n0_; have HO_29 := n1_; have HO_30 := n2_; have HO_31 := n3_; have HO583 := n4_; have HO587 := n5_; have HB := n6_; clear n0_ n1_ n2_ n3_ n4_ n5_ n6_; (try clear hb); (try clear hb2); (try clear hk); (try clear hi); (try clear ho0); obtain ⟨Ao167, co167, eo167⟩ := Kd.R_slice HO_31.out; subst eo167) | ((with_reducible refine gate_callee (f := 69) rfl ?_); refine goesL_ (some 370) rfl rfl Try.func69 (by kernel_rfl) rfl #[.slice Ao167 t544.length co167, .slice Ao13 t487.length co13] rfl (by (try simp only [List.map_toArray, List.map_cons, List.map_nil]); first | done | rfl | (simp only [List.length_drop, List.length_take]; rfl)) ?_; (with_reducible refine (impl_FilterSignal.calls kj128 _ _ t544 _ _ t487 t588 t589 _ ?side1 ?side2 ?side3 ?side4 A141.out).mono ?_); (case side1 => exact xC ((Kd.R_reads' HO_31.out).2.2)); (case side2 => exact (Kd.R_reads' HO_31.out).2.1); (case side3 => exact xC ((Kd.R_reads' HO_6.out).2.2)); (case side4 => exact (Kd.R_reads' HO_6.out).2.1); rintro e w168 ⟨v590, rfl, ho0, hb⟩; refine ⟨_, rfl, ?_⟩; have n0_ := Aside0.mk (Kd.R_elder' (xR HO_6.out) (Kd.R_base ho0) hb); have n1_ := Aside0.mk (Kd.R_elder' (xR HO_29.out) (Kd.R_base ho0) hb); have n2_ := Aside0.mk (Kd.R_elder' (xR HO_30.out) (Kd.R_base ho0) hb); have n3_ := Aside0.mk (Kd.R_elder' (xR HO_31.out) (Kd.R_base ho0) hb); have n4_ := Aside0.mk (Kd.R_elder' (xR HO583.out) (Kd.R_base ho0) hb); have n5_ := Aside0.mk (Kd.R_elder' (xR HO587.out) (Kd.R_base ho0) hb); have n6_ := Aside0.mk (Kd.R_lower (Kd.R_new' (Kd.R_new' (Kd.R_new' (Kd.R_new' (Kd.R_new' (Kd.R_new' ho0 (Kd.R_lt (xR HO_6.out))) (Kd.R_lt (xR HO_29.out))) (Kd.R_lt (xR HO_30.out))) (Kd.R_lt (xR HO_31.out))) (Kd.R_lt (xR HO583.out))) (Kd.R_lt (xR HO587.out))) (below_size (xB HB.out))); have n7_ := Aside0.mk (below_step (xB HB.out) hb); clear HO_6; clear HO_29; clear HO_30; clear HO_31; clear HO583; clear HO587; clear HB; have HO_6 := n0_; have HO_29 := n1_; have HO_30 := n2_; have HO_31 := n3_; have HO583 := n4_; have HO587 := n5_; have HO591 := n6_; have HB := n7_; clear n0_ n1_ n2_ n3_ n4_ n5_ n6_ n7_; (try clear hb); (try clear hb2); (try clear hk); (try clear hi); (try clear ho0)))
              go_meet
              case rel => exact ⟨_, H', ⟨by have := HJ9.out; have := HJ33.out; have := HJ85.out; have := HK4.out; have := HJ128.out; first | omega | exact Nat.le_refl _⟩, ⟨xB HB.out⟩⟩
            subst c142
            have H1 := H
            rw [if_pos rfl] at H1
            clear H
            have H := H1
            clear H1
            by_cases c143 : t585 = true
            rotate_left
            ·as_aux_lemma =>
              replace c143 := Bool.eq_false_iff.mpr c143
              subst c143
              have H1 := H
              rw [if_neg (show ¬ (false = true) by decide)] at H1
              clear H
              have H := H1
              clear H1
              have H' := Aside0.mk H
              clear H
              go_wp2_with (first | ((with_reducible refine gate_callee (f := 69) rfl ?_); refine goesL_ (some 358) rfl rfl Try.func69 (by kernel_rfl) rfl #[.slice Ao88 t538.length co88, .slice Ao13 t487.length co13] rfl (by (try simp only [List.map_toArray, List.map_cons, List.map_nil]); first | done | rfl | (simp only [List.length_drop, List.length_take]; rfl)) ?_; (with_reducible refine (impl_FilterSignal.calls kj128 _ _ t538 _ _ t487 t580 true _ ?side1 ?side2 ?side3 ?side4 A139.out).mono ?_); (case side1 => exact xC ((Kd.R_reads' HO_29.out).2.2)); (case side2 => exact (Kd.R_reads' HO_29.out).2.1); (case side3 => exact xC ((Kd.R_reads' HO_6.out).2.2)); (case side4 => exact (Kd.R_reads' HO_6.out).2.1); rintro e w159 ⟨v582, rfl, ho0, hb⟩; refine ⟨_, rfl, ?_⟩; have n0_ := Aside0.mk (Kd.R_elder' (xR HO_6.out) (Kd.R_base ho0) hb); have n1_ := Aside0.mk (Kd.R_elder' (xR HO_29.out) (Kd.R_base ho0) hb); have n2_ := Aside0.mk (Kd.R_elder' (xR HO_30.out) (Kd.R_base ho0) hb); have n3_ := Aside0.mk (Kd.R_elder' (xR HO_31.out) (Kd.R_base ho0) hb); have n4_ := Aside0.mk (Kd.R_lower (Kd.R_new' (Kd.R_new' (Kd.R_new' (Kd.R_new' ho0 (Kd.R_lt (xR HO_6.out))) (Kd.R_lt (xR HO_29.out))) (Kd.R_lt (xR HO_30.out))) (Kd.R_lt (xR HO_31.out))) (below_size (xB HB.out))); have n5_ := Aside0.mk (below_step (xB HB.out) hb); clear HO_6; clear HO_29; clear HO_30; clear HO_31; clear HB; have HO_6 := n0_; have HO_29 := n1_; have HO_30 := n2_; have HO_31 := n3_; have HO583 := n4_; have HB := n5_; clear n0_ n1_ n2_ n3_ n4_ n5_; (try clear hb); (try clear hb2); (try clear hk); (try clear hi); (try clear ho0); obtain ⟨Ao160, co160, eo160⟩ := Kd.R_slice HO583.out; subst eo160) | ((with_reducible refine gate_callee (f := 69) rfl ?_); refine goesL_ (some 364) rfl rfl Try.func69 (by kernel_rfl) rfl #[.slice (some ad574) t539.length co89, .slice Ao160 t580.length co160] rfl (by (try simp only [List.map_toArray, List.map_cons, List.map_nil]); first | done | rfl | (simp only [List.length_drop, List.length_take]; rfl)) ?_; (with_reducible refine (impl_FilterSignal.calls kj128 _ _ t539 _ _ t580 t584 false _ ?side1 ?side2 ?side3 ?side4 A140.out).mono ?_); (case side1 => exact xC ((Kd.R_reads' HO_30.out).2.2)); (case side2 => exact (Kd.R_reads' HO_30.out).2.1); (case side3 => exact xC ((Kd.R_reads' HO583.out).2.2)); (case side4 => exact (Kd.R_reads' HO583.out).2.1); rintro e w161 ⟨v586, rfl, ho0, hb⟩; refine ⟨_, rfl, ?_⟩; have n0_ := Aside0.mk (Kd.R_elder' (xR HO_6.out) (Kd.R_base ho0) hb); have n1_ := Aside0.mk (Kd.R_elder' (xR HO_29.out) (Kd.R_base ho0) hb); have n2_ := Aside0.mk (Kd.R_elder' (xR HO_30.out) (Kd.R_base ho0) hb); have n3_ := Aside0.mk (Kd.R_elder' (xR HO_31.out) (Kd.R_base ho0) hb); have n4_ := Aside0.mk (Kd.R_elder' (xR HO583.out) (Kd.R_base ho0) hb); have n5_ := Aside0.mk (Kd.R_lower (Kd.R_new' (Kd.R_new' (Kd.R_new' (Kd.R_new' (Kd.R_new' ho0 (Kd.R_lt (xR HO_6.out))) (Kd.R_lt (xR HO_29.out))) (Kd.R_lt (xR HO_30.out))) (Kd.R_lt (xR HO_31.out))) (Kd.R_lt (xR HO583.out))) (below_size (xB HB.out))); have n6_ := Aside0.mk (below_step (xB HB.out) hb); clear HO_6; clear HO_29; clear HO_30; clear HO_31; clear HO583; clear HB; have HO_6 := n0_; have HO_29 := n1_; have HO_30 := n2_; have HO_31 := n3_; have HO583 := n4_; have HO587 := n5_; have HB := n6_; clear n0_ n1_ n2_ n3_ n4_ n5_ n6_; (try clear hb); (try clear hb2); (try clear hk); (try clear hi); (try clear ho0); obtain ⟨Ao162, co162, eo162⟩ := Kd.R_slice HO_31.out; subst eo162) | ((with_reducible refine gate_callee (f := 69) rfl ?_); refine goesL_ (some 370) rfl rfl Try.func69 (by kernel_rfl) rfl #[.slice Ao162 t544.length co162, .slice Ao13 t487.length co13] rfl (by (try simp only [List.map_toArray, List.map_cons, List.map_nil]); first | done | rfl | (simp only [List.length_drop, List.length_take]; rfl)) ?_; (with_reducible refine (impl_FilterSignal.calls kj128 _ _ t544 _ _ t487 t588 t589 _ ?side1 ?side2 ?side3 ?side4 A141.out).mono ?_); (case side1 => exact xC ((Kd.R_reads' HO_31.out).2.2)); (case side2 => exact (Kd.R_reads' HO_31.out).2.1); (case side3 => exact xC ((Kd.R_reads' HO_6.out).2.2)); (case side4 => exact (Kd.R_reads' HO_6.out).2.1); rintro e w163 ⟨v590, rfl, ho0, hb⟩; refine ⟨_, rfl, ?_⟩; have n0_ := Aside0.mk (Kd.R_elder' (xR HO_6.out) (Kd.R_base ho0) hb); have n1_ := Aside0.mk (Kd.R_elder' (xR HO_29.out) (Kd.R_base ho0) hb); have n2_ := Aside0.mk (Kd.R_elder' (xR HO_30.out) (Kd.R_base ho0) hb); have n3_ := Aside0.mk (Kd.R_elder' (xR HO_31.out) (Kd.R_base ho0) hb); have n4_ := Aside0.mk (Kd.R_elder' (xR HO583.out) (Kd.R_base ho0) hb); have n5_ := Aside0.mk (Kd.R_elder' (xR HO587.out) (Kd.R_base ho0) hb); have n6_ := Aside0.mk (Kd.R_lower (Kd.R_new' (Kd.R_new' (Kd.R_new' (Kd.R_new' (Kd.R_new' (Kd.R_new' ho0 (Kd.R_lt (xR HO_6.out))) (Kd.R_lt (xR HO_29.out))) (Kd.R_lt (xR HO_30.out))) (Kd.R_lt (xR HO_31.out))) (Kd.R_lt (xR HO583.out))) (Kd.R_lt (xR HO587.out))) (below_size (xB HB.out))); have n7_ := Aside0.mk (below_step (xB HB.out) hb); clear HO_6; clear HO_29; clear HO_30; clear HO_31; clear HO583; clear HO587; clear HB; have HO_6 := n0_; have HO_29 := n1_; have HO_30 := n2_; have HO_31 := n3_; have HO583 := n4_; have HO587 := n5_; have HO591 := n6_; have HB := n7_; clear n0_ n1_ n2_ n3_ n4_ n5_ n6_ n7_; (try clear hb); (try clear hb2); (try clear hk); (try clear hi); (try clear ho0)))
              go_meet
              case rel => exact ⟨_, H', ⟨by have := HJ9.out; have := HJ33.out; have := HJ85.out; have := HK4.out; have := HJ128.out; first | omega | exact Nat.le_refl _⟩, ⟨xB HB.out⟩⟩
            as_aux_lemma =>
             subst c143
             have H1 := H
             rw [if_pos rfl] at H1
             clear H
             have H := H1
             clear H1
             by_cases c144 : t589 = true
             rotate_left
             ·as_aux_lemma =>
                replace c144 := Bool.eq_false_iff.mpr c144
                subst c144
                have H1 := H
                rw [if_neg (show ¬ (false = true) by decide)] at H1
                clear H
                have H := H1
                clear H1
                have H' := Aside0.mk H
                clear H
                go_wp2_with (first | ((with_reducible refine gate_callee (f := 69) rfl ?_); refine goesL_ (some 358) rfl rfl Try.func69 (by kernel_rfl) rfl #[.slice Ao88 t538.length co88, .slice Ao13 t487.length co13] rfl (by (try simp only [List.map_toArray, List.map_cons, List.map_nil]); first | done | rfl | (simp only [List.length_drop, List.length_take]; rfl)) ?_; (with_reducible refine (impl_FilterSignal.calls kj128 _ _ t538 _ _ t487 t580 true _ ?side1 ?side2 ?side3 ?side4 A139.out).mono ?_); (case side1 => exact xC ((Kd.R_reads' HO_29.out).2.2)); (case side2 => exact (Kd.R_reads' HO_29.out).2.1); (case side3 => exact xC ((Kd.R_reads' HO_6.out).2.2)); (case side4 => exact (Kd.R_reads' HO_6.out).2.1); rintro e w154 ⟨v582, rfl, ho0, hb⟩; refine ⟨_, rfl, ?_⟩; have n0_ := Aside0.mk (Kd.R_elder' (xR HO_6.out) (Kd.R_base ho0) hb); have n1_ := Aside0.mk (Kd.R_elder' (xR HO_29.out) (Kd.R_base ho0) hb); have n2_ := Aside0.mk (Kd.R_elder' (xR HO_30.out) (Kd.R_base ho0) hb); have n3_ := Aside0.mk (Kd.R_elder' (xR HO_31.out) (Kd.R_base ho0) hb); have n4_ := Aside0.mk (Kd.R_lower (Kd.R_new' (Kd.R_new' (Kd.R_new' (Kd.R_new' ho0 (Kd.R_lt (xR HO_6.out))) (Kd.R_lt (xR HO_29.out))) (Kd.R_lt (xR HO_30.out))) (Kd.R_lt (xR HO_31.out))) (below_size (xB HB.out))); have n5_ := Aside0.mk (below_step (xB HB.out) hb); clear HO_6; clear HO_29; clear HO_30; clear HO_31; clear HB; have HO_6 := n0_; have HO_29 := n1_; have HO_30 := n2_; have HO_31 := n3_; have HO583 := n4_; have HB := n5_; clear n0_ n1_ n2_ n3_ n4_ n5_; (try clear hb); (try clear hb2); (try clear hk); (try clear hi); (try clear ho0); obtain ⟨Ao155, co155, eo155⟩ := Kd.R_slice HO583.out; subst eo155) | ((with_reducible refine gate_callee (f := 69) rfl ?_); refine goesL_ (some 364) rfl rfl Try.func69 (by kernel_rfl) rfl #[.slice (some ad574) t539.length co89, .slice Ao155 t580.length co155] rfl (by (try simp only [List.map_toArray, List.map_cons, List.map_nil]); first | done | rfl | (simp only [List.length_drop, List.length_take]; rfl)) ?_; (with_reducible refine (impl_FilterSignal.calls kj128 _ _ t539 _ _ t580 t584 true _ ?side1 ?side2 ?side3 ?side4 A140.out).mono ?_); (case side1 => exact xC ((Kd.R_reads' HO_30.out).2.2)); (case side2 => exact (Kd.R_reads' HO_30.out).2.1); (case side3 => exact xC ((Kd.R_reads' HO583.out).2.2)); (case side4 => exact (Kd.R_reads' HO583.out).2.1); rintro e w156 ⟨v586, rfl, ho0, hb⟩; refine ⟨_, rfl, ?_⟩; have n0_ := Aside0.mk (Kd.R_elder' (xR HO_6.out) (Kd.R_base ho0) hb); have n1_ := Aside0.mk (Kd.R_elder' (xR HO_29.out) (Kd.R_base ho0) hb); have n2_ := Aside0.mk (Kd.R_elder' (xR HO_30.out) (Kd.R_base ho0) hb); have n3_ := Aside0.mk (Kd.R_elder' (xR HO_31.out) (Kd.R_base ho0) hb); have n4_ := Aside0.mk (Kd.R_elder' (xR HO583.out) (Kd.R_base ho0) hb); have n5_ := Aside0.mk (Kd.R_lower (Kd.R_new' (Kd.R_new' (Kd.R_new' (Kd.R_new' (Kd.R_new' ho0 (Kd.R_lt (xR HO_6.out))) (Kd.R_lt (xR HO_29.out))) (Kd.R_lt (xR HO_30.out))) (Kd.R_lt (xR HO_31.out))) (Kd.R_lt (xR HO583.out))) (below_size (xB HB.out))); have n6_ := Aside0.mk (below_step (xB HB.out) hb); clear HO_6; clear HO_29; clear HO_30; clear HO_31; clear HO583; clear HB; have HO_6 := n0_; have HO_29 := n1_; have HO_30 := n2_; have HO_31 := n3_; have HO583 := n4_; have HO587 := n5_; have HB := n6_; clear n0_ n1_ n2_ n3_ n4_ n5_ n6_; (try clear hb); (try clear hb2); (try clear hk); (try clear hi); (try clear ho0); obtain ⟨Ao157, co157, eo157⟩ := Kd.R_slice HO_31.out; subst eo157) | ((with_reducible refine gate_callee (f := 69) rfl ?_); refine goesL_ (some 370) rfl rfl Try.func69 (by kernel_rfl) rfl #[.slice Ao157 t544.length co157, .slice Ao13 t487.length co13] rfl (by (try simp only [List.map_toArray, List.map_cons, List.map_nil]); first | done | rfl | (simp only [List.length_drop, List.length_take]; rfl)) ?_; (with_reducible refine (impl_FilterSignal.calls kj128 _ _ t544 _ _ t487 t588 false _ ?side1 ?side2 ?side3 ?side4 A141.out).mono ?_); (case side1 => exact xC ((Kd.R_reads' HO_31.out).2.2)); (case side2 => exact (Kd.R_reads' HO_31.out).2.1); (case side3 => exact xC ((Kd.R_reads' HO_6.out).2.2)); (case side4 => exact (Kd.R_reads' HO_6.out).2.1); rintro e w158 ⟨v590, rfl, ho0, hb⟩; refine ⟨_, rfl, ?_⟩; have n0_ := Aside0.mk (Kd.R_elder' (xR HO_6.out) (Kd.R_base ho0) hb); have n1_ := Aside0.mk (Kd.R_elder' (xR HO_29.out) (Kd.R_base ho0) hb); have n2_ := Aside0.mk (Kd.R_elder' (xR HO_30.out) (Kd.R_base ho0) hb); have n3_ := Aside0.mk (Kd.R_elder' (xR HO_31.out) (Kd.R_base ho0) hb); have n4_ := Aside0.mk (Kd.R_elder' (xR HO583.out) (Kd.R_base ho0) hb); have n5_ := Aside0.mk (Kd.R_elder' (xR HO587.out) (Kd.R_base ho0) hb); have n6_ := Aside0.mk (Kd.R_lower (Kd.R_new' (Kd.R_new' (Kd.R_new' (Kd.R_new' (Kd.R_new' (Kd.R_new' ho0 (Kd.R_lt (xR HO_6.out))) (Kd.R_lt (xR HO_29.out))) (Kd.R_lt (xR HO_30.out))) (Kd.R_lt (xR HO_31.out))) (Kd.R_lt (xR HO583.out))) (Kd.R_lt (xR HO587.out))) (below_size (xB HB.out))); have n7_ := Aside0.mk (below_step (xB HB.out) hb); clear HO_6; clear HO_29; clear HO_30; clear HO_31; clear HO583; clear HO587; clear HB; have HO_6 := n0_; have HO_29 := n1_; have HO_30 := n2_; have HO_31 := n3_; have HO583 := n4_; have HO587 := n5_; have HO591 := n6_; have HB := n7_; clear n0_ n1_ n2_ n3_ n4_ n5_ n6_ n7_; (try clear hb); (try clear hb2); (try clear hk); (try clear hi); (try clear ho0)))
                go_meet
                case rel => exact ⟨_, H', ⟨by have := HJ9.out; have := HJ33.out; have := HJ85.out; have := HK4.out; have := HJ128.out; first | omega | exact Nat.le_refl _⟩, ⟨xB HB.out⟩⟩
             subst c144
             have H1 := H
             rw [if_pos rfl] at H1
             clear H
             have H := H1
             clear H1
             replace H := Option.bind_eq_some_iff.mp H
             obtain ⟨t592, A1450, H⟩ := H
             (try dsimp only at H)
             have A145 := Aside0.mk A1450
             clear A1450
             by_cases c146 : t592 = true
             rotate_left
             ·replace c146 := Bool.eq_false_iff.mpr c146
              subst c146
              have H1 := H
              rw [if_neg (show ¬ (false = true) by decide)] at H1
              clear H
              have H := H1
              clear H1
              exact absurd ((Option.some.inj H).trans HRT.out) (by decide)
             subst c146
             have H1 := H
             rw [if_pos rfl] at H1
             clear H
             have H := H1
             clear H1
             have H' := Aside0.mk H
             clear H
             go_wp2_with (first | ((with_reducible refine gate_callee (f := 69) rfl ?_); refine goesL_ (some 358) rfl rfl Try.func69 (by kernel_rfl) rfl #[.slice Ao88 t538.length co88, .slice Ao13 t487.length co13] rfl (by (try simp only [List.map_toArray, List.map_cons, List.map_nil]); first | done | rfl | (simp only [List.length_drop, List.length_take]; rfl)) ?_; (with_reducible refine (impl_FilterSignal.calls kj128 _ _ t538 _ _ t487 t580 true _ ?side1 ?side2 ?side3 ?side4 A139.out).mono ?_); (case side1 => exact xC ((Kd.R_reads' HO_29.out).2.2)); (case side2 => exact (Kd.R_reads' HO_29.out).2.1); (case side3 => exact xC ((Kd.R_reads' HO_6.out).2.2)); (case side4 => exact (Kd.R_reads' HO_6.out).2.1); rintro e w147 ⟨v582, rfl, ho0, hb⟩; refine ⟨_, rfl, ?_⟩; have n0_ := Aside0.mk (Kd.R_elder' (xR HO_6.out) (Kd.R_base ho0) hb); have n1_ := Aside0.mk (Kd.R_elder' (xR HO_29.out) (Kd.R_base ho0) hb); have n2_ := Aside0.mk (Kd.R_elder' (xR HO_30.out) (Kd.R_base ho0) hb); have n3_ := Aside0.mk (Kd.R_elder' (xR HO_31.out) (Kd.R_base ho0) hb); have n4_ := Aside0.mk (Kd.R_lower (Kd.R_new' (Kd.R_new' (Kd.R_new' (Kd.R_new' ho0 (Kd.R_lt (xR HO_6.out))) (Kd.R_lt (xR HO_29.out))) (Kd.R_lt (xR HO_30.out))) (Kd.R_lt (xR HO_31.out))) (below_size (xB HB.out))); have n5_ := Aside0.mk (below_step (xB HB.out) hb); clear HO_6; clear HO_29; clear HO_30; clear HO_31; clear HB; have HO_6 := n0_; have HO_29 := n1_; have HO_30 := n2_; have HO_31 := n3_; have HO583 := n4_; have HB := n5_; clear n0_ n1_ n2_ n3_ n4_ n5_; (try clear hb); (try clear hb2); (try clear hk); (try clear hi); (try clear ho0); obtain ⟨Ao148, co148, eo148⟩ := Kd.R_slice HO583.out; subst eo148) | ((with_reducible refine gate_callee (f := 69) rfl ?_); refine goesL_ (some 364) rfl rfl Try.func69 (by kernel_rfl) rfl #[.slice (some ad574) t539.length co89, .slice Ao148 t580.length co148] rfl (by (try simp only [List.map_toArray, List.map_cons, List.map_nil]); first | done | rfl | (simp only [List.length_drop, List.length_take]; rfl)) ?_; (with_reducible refine (impl_FilterSignal.calls kj128 _ _ t539 _ _ t580 t584 true _ ?side1 ?side2 ?side3 ?side4 A140.out).mono ?_); (case side1 => exact xC ((Kd.R_reads' HO_30.out).2.2)); (case side2 => exact (Kd.R_reads' HO_30.out).2.1); (case side3 => exact xC ((Kd.R_reads' HO583.out).2.2)); (case side4 => exact (Kd.R_reads' HO583.out).2.1); rintro e w149 ⟨v586, rfl, ho0, hb⟩; refine ⟨_, rfl, ?_⟩; have n0_ := Aside0.mk (Kd.R_elder' (xR HO_6.out) (Kd.R_base ho0) hb); have n1_ := Aside0.mk (Kd.R_elder' (xR HO_29.out) (Kd.R_base ho0) hb); have n2_ := Aside0.mk (Kd.R_elder' (xR HO_30.out) (Kd.R_base ho0) hb); have n3_ := Aside0.mk (Kd.R_elder' (xR HO_31.out) (Kd.R_base ho0) hb); have n4_ := Aside0.mk (Kd.R_elder' (xR HO583.out) (Kd.R_base ho0) hb); have n5_ := Aside0.mk (Kd.R_lower (Kd.R_new' (Kd.R_new' (Kd.R_new' (Kd.R_new' (Kd.R_new' ho0 (Kd.R_lt (xR HO_6.out))) (Kd.R_lt (xR HO_29.out))) (Kd.R_lt (xR HO_30.out))) (Kd.R_lt (xR HO_31.out))) (Kd.R_lt (xR HO583.out))) (below_size (xB HB.out))); have n6_ := Aside0.mk (below_step (xB HB.out) hb); clear HO_6; clear HO_29; clear HO_30; clear HO_31; clear HO583; clear HB; have HO_6 := n0_; have HO_29 := n1_; have HO_30 := n2_; have HO_31 := n3_; have HO583 := n4_; have HO587 := n5_; have HB := n6_; clear n0_ n1_ n2_ n3_ n4_ n5_ n6_; (try clear hb); (try clear hb2); (try clear hk); (try clear hi); (try clear ho0); obtain ⟨Ao150, co150, eo150⟩ := Kd.R_slice HO_31.out; subst eo150) | ((with_reducible refine gate_callee (f := 69) rfl ?_); refine goesL_ (some 370) rfl rfl Try.func69 (by kernel_rfl) rfl #[.slice Ao150 t544.length co150, .slice Ao13 t487.length co13] rfl (by (try simp only [List.map_toArray, List.map_cons, List.map_nil]); first | done | rfl | (simp only [List.length_drop, List.length_take]; rfl)) ?_; (with_reducible refine (impl_FilterSignal.calls kj128 _ _ t544 _ _ t487 t588 true _ ?side1 ?side2 ?side3 ?side4 A141.out).mono ?_); (case side1 => exact xC ((Kd.R_reads' HO_31.out).2.2)); (case side2 => exact (Kd.R_reads' HO_31.out).2.1); (case side3 => exact xC ((Kd.R_reads' HO_6.out).2.2)); (case side4 => exact (Kd.R_reads' HO_6.out).2.1); rintro e w151 ⟨v590, rfl, ho0, hb⟩; refine ⟨_, rfl, ?_⟩; have n0_ := Aside0.mk (Kd.R_elder' (xR HO_6.out) (Kd.R_base ho0) hb); have n1_ := Aside0.mk (Kd.R_elder' (xR HO_29.out) (Kd.R_base ho0) hb); have n2_ := Aside0.mk (Kd.R_elder' (xR HO_30.out) (Kd.R_base ho0) hb); have n3_ := Aside0.mk (Kd.R_elder' (xR HO_31.out) (Kd.R_base ho0) hb); have n4_ := Aside0.mk (Kd.R_elder' (xR HO583.out) (Kd.R_base ho0) hb); have n5_ := Aside0.mk (Kd.R_elder' (xR HO587.out) (Kd.R_base ho0) hb); have n6_ := Aside0.mk (Kd.R_lower (Kd.R_new' (Kd.R_new' (Kd.R_new' (Kd.R_new' (Kd.R_new' (Kd.R_new' ho0 (Kd.R_lt (xR HO_6.out))) (Kd.R_lt (xR HO_29.out))) (Kd.R_lt (xR HO_30.out))) (Kd.R_lt (xR HO_31.out))) (Kd.R_lt (xR HO583.out))) (Kd.R_lt (xR HO587.out))) (below_size (xB HB.out))); have n7_ := Aside0.mk (below_step (xB HB.out) hb); clear HO_6; clear HO_29; clear HO_30; clear HO_31; clear HO583; clear HO587; clear HB; have HO_6 := n0_; have HO_29 := n1_; have HO_30 := n2_; have HO_31 := n3_; have HO583 := n4_; have HO587 := n5_; have HO591 := n6_; have HB := n7_; clear n0_ n1_ n2_ n3_ n4_ n5_ n6_ n7_; (try clear hb); (try clear hb2); (try clear hk); (try clear hi); (try clear ho0); obtain ⟨Ao152, co152, eo152⟩ := Kd.R_slice HO587.out; subst eo152; obtain ⟨Ao153, co153, eo153⟩ := Kd.R_slice HO591.out; subst eo153) | (go_at_call 21; (with_reducible refine (laws_iSame.calls kj128 _ _ t584 _ _ t588 true _ ?side1 ?side2 ?side3 ?side4 A145.out).mono ?_); (case side1 => exact xC ((Kd.R_reads' HO587.out).2.2)); (case side2 => exact (Kd.R_reads' HO587.out).2.1); (case side3 => exact xC ((Kd.R_reads' HO591.out).2.2)); (case side4 => exact (Kd.R_reads' HO591.out).2.1); rintro e w' ⟨rfl, ⟨nd, rfl⟩⟩))
             go_meet
             case rel => exact ⟨_, H', ⟨by have := HJ9.out; have := HJ33.out; have := HJ85.out; have := HK4.out; have := HJ128.out; first | omega | exact Nat.le_refl _⟩, ⟨xB HB.out⟩⟩
       case rest => as_aux_lemma =>
        clear HC102
        try clear c101
        obtain ⟨kq, HA, HJ101, HB⟩ := hcut
        cases kq with
        | zero => exact absurd HA.out (by simp [laws_FnWeightsMultiply.j6])
        | succ kj101 =>
         have H := HA.out
         clear HA
         simp only [laws_FnWeightsMultiply.j6] at H
         replace H := Option.bind_eq_some_iff.mp H
         obtain ⟨⟨t593, t594⟩, A1690, H⟩ := H
         (try dsimp only at H)
         have A169 := Aside0.mk A1690
         clear A1690
         replace H := Option.bind_eq_some_iff.mp H
         obtain ⟨⟨t599, t600⟩, A1700, H⟩ := H
         (try dsimp only at H)
         have A170 := Aside0.mk A1700
         clear A1700
         replace H := Option.bind_eq_some_iff.mp H
         obtain ⟨⟨t603, t604⟩, A1710, H⟩ := H
         (try dsimp only at H)
         have A171 := Aside0.mk A1710
         clear A1710
         have HC172 := Aside0.mk H
         clear H
         go_upto_region 56 with (first | ((with_reducible refine gate_callee (f := 81) rfl ?_); refine goesL_ (some 388) rfl rfl Try.func81 (by kernel_rfl) rfl #[.slice A1 l1.length c1] rfl (by (try simp only [List.map_toArray, List.map_cons, List.map_nil]); first | done | rfl | (simp only [List.length_drop, List.length_take]; rfl)) ?_; (with_reducible refine (spec_DrawDivideWeights.calls kj101 _ _ l1 t593 t594 _ ?side1 ?side2 A169.out).mono ?_); (case side1 => exact xC (Kd.C_below HR1.out HB.out)); (case side2 => exact HC1.out); rintro e w173 ⟨v595, v597, rfl, ho0, ho1, hb⟩; refine ⟨_, rfl, ?_⟩; have n0_ := Aside0.mk (Kd.R_lower ho0 (below_size (xB HB.out))); have n1_ := Aside0.mk (Kd.R_lower ho1 (below_size (xB HB.out))); have n2_ := Aside0.mk (below_step (xB HB.out) hb); clear HB; have HO596 := n0_; have HO598 := n1_; have HB := n2_; clear n0_ n1_ n2_; (try clear hb); (try clear hb2); (try clear hk); (try clear hi); (try clear ho0); (try clear ho1); obtain ⟨Ao174, co174, eo174⟩ := Kd.R_slice HO596.out; subst eo174; obtain ⟨Ao175, co175, eo175⟩ := Kd.R_slice HO598.out; subst eo175) | ((with_reducible refine gate_callee (f := 80) rfl ?_); refine goesL_ (some 394) rfl rfl Try.func80 (by kernel_rfl) rfl #[.slice Ao174 t593.length co174, .slice Ao175 t594.length co175] rfl (by (try simp only [List.map_toArray, List.map_cons, List.map_nil]); first | done | rfl | (simp only [List.length_drop, List.length_take]; rfl)) ?_; (with_reducible refine (impl_DivideWeights.calls kj101 _ _ t593 _ _ t594 t599 t600 _ ?side1 ?side2 ?side3 ?side4 A170.out).mono ?_); (case side1 => exact xC ((Kd.R_reads' HO596.out).2.2)); (case side2 => exact (Kd.R_reads' HO596.out).2.1); (case side3 => exact xC ((Kd.R_reads' HO598.out).2.2)); (case side4 => exact (Kd.R_reads' HO598.out).2.1); rintro e w176 ⟨v601, rfl, ho0, hb⟩; refine ⟨_, rfl, ?_⟩; have n0_ := Aside0.mk (Kd.R_elder' (xR HO596.out) (Kd.R_base ho0) hb); have n1_ := Aside0.mk (Kd.R_elder' (xR HO598.out) (Kd.R_base ho0) hb); have n2_ := Aside0.mk (Kd.R_lower (Kd.R_new' (Kd.R_new' ho0 (Kd.R_lt (xR HO596.out))) (Kd.R_lt (xR HO598.out))) (below_size (xB HB.out))); have n3_ := Aside0.mk (below_step (xB HB.out) hb); clear HO596; clear HO598; clear HB; have HO596 := n0_; have HO598 := n1_; have HO602 := n2_; have HB := n3_; clear n0_ n1_ n2_ n3_; (try clear hb); (try clear hb2); (try clear hk); (try clear hi); (try clear ho0)) | ((with_reducible refine gate_callee (f := 82) rfl ?_); refine goesL_ (some 400) rfl rfl Try.func82 (by kernel_rfl) rfl #[.slice Ao174 t593.length co174, .slice Ao175 t594.length co175] rfl (by (try simp only [List.map_toArray, List.map_cons, List.map_nil]); first | done | rfl | (simp only [List.length_drop, List.length_take]; rfl)) ?_; (with_reducible refine (spec_DivideWeights.calls kj101 _ _ t593 _ _ t594 t603 t604 _ ?side1 ?side2 ?side3 ?side4 A171.out).mono ?_); (case side1 => exact xC ((Kd.R_reads' HO596.out).2.2)); (case side2 => exact (Kd.R_reads' HO596.out).2.1); (case side3 => exact xC ((Kd.R_reads' HO598.out).2.2)); (case side4 => exact (Kd.R_reads' HO598.out).2.1); rintro e w177 ⟨v605, rfl, ho0, hb⟩; refine ⟨_, rfl, ?_⟩; have n0_ := Aside0.mk (Kd.R_elder' (xR HO596.out) (Kd.R_base ho0) hb); have n1_ := Aside0.mk (Kd.R_elder' (xR HO598.out) (Kd.R_base ho0) hb); have n2_ := Aside0.mk (Kd.R_elder' (xR HO602.out) (Kd.R_base ho0) hb); have n3_ := Aside0.mk (Kd.R_lower (Kd.R_new' (Kd.R_new' (Kd.R_new' ho0 (Kd.R_lt (xR HO596.out))) (Kd.R_lt (xR HO598.out))) (Kd.R_lt (xR HO602.out))) (below_size (xB HB.out))); have n4_ := Aside0.mk (below_step (xB HB.out) hb); clear HO596; clear HO598; clear HO602; clear HB; have HO596 := n0_; have HO598 := n1_; have HO602 := n2_; have HO606 := n3_; have HB := n4_; clear n0_ n1_ n2_ n3_ n4_; (try clear hb); (try clear hb2); (try clear hk); (try clear hi); (try clear ho0)))
         (try simp only [Act.put, List.setIfInBounds_toArray, List.set_cons_zero, List.set_cons_succ])
         go_cut [411] (fun v411 wc => ∃ (kq : Nat) (x411_171 : Bool), v411 = .bool x411_171 ∧ Aside0 (laws_FnWeightsMultiply.j7 kq l1 t593 t594 t599 t600 x411_171 = some r) ∧ Aside0 (kq ≤ kj101) ∧ Aside0 (Kd.R (Kd.int .i64) 3 wc w.heap.size (fun k_ => some k_ ≠ ((.slice Ao175 t594.length co175) : Value).ownBlock ∧ some k_ ≠ (v601 : Value).ownBlock) (.slice Ao174 t593.length co174) t593) ∧ Aside0 (Kd.R (Kd.int .i64) 3 wc w.heap.size (fun k_ => some k_ ≠ ((.slice Ao174 t593.length co174) : Value).ownBlock ∧ some k_ ≠ (v601 : Value).ownBlock) (.slice Ao175 t594.length co175) t594) ∧ Aside0 (Kd.R (Kd.int .i64) 3 wc w.heap.size (fun k_ => some k_ ≠ ((.slice Ao174 t593.length co174) : Value).ownBlock ∧ some k_ ≠ ((.slice Ao175 t594.length co175) : Value).ownBlock) v601 t599) ∧ Aside0 (Below w.heap.size w wc))
         case first => as_aux_lemma =>
          have H := HC172.out
          clear HC172
          by_cases c178 : (t600 != t604) = true
          ·as_aux_lemma =>
            rw [if_pos c178] at H
            have c178b0 : (t600 != t604) = true := c178
            (try (have c178b1 : decide (t600 = t604) = false := by simpa using c178))
            (try (have c178b2 : (t600 == t604) = false := by simpa using c178))
            (try (have c178b3 : ¬ (t600 = t604) := by simpa using c178))
            clear c178
            (first | rw [c178b0] | (simp only [i64_w, i32_w]; rw [c178b0]) | skip)
            exact absurd H (by have hr_ := HRT.out; cases kj101 <;> simp [laws_FnWeightsMultiply.j7, hr_])
          as_aux_lemma =>
           rw [if_neg c178] at H
           have c178b0 : (t600 != t604) = false := by simpa using c178
           (try (have c178b1 : decide (t600 = t604) = true := by simpa using c178))
           (try (have c178b2 : (t600 == t604) = true := by simpa using c178))
           clear c178
           (first | rw [c178b0] | (simp only [i64_w, i32_w]; rw [c178b0]) | skip)
           replace H := Option.bind_eq_some_iff.mp H
           obtain ⟨t607, A1790, H⟩ := H
           (try dsimp only at H)
           have A179 := Aside0.mk A1790
           clear A1790
           have H' := Aside0.mk H
           clear H
           obtain ⟨Ao180, co180, eo180⟩ := Kd.R_slice HO602.out
           subst eo180
           obtain ⟨Ao181, co181, eo181⟩ := Kd.R_slice HO606.out
           subst eo181
           go_wp2_with (first | (go_at_call 21; (with_reducible refine (laws_iSame.calls kj101 _ _ t599 _ _ t603 t607 _ ?side1 ?side2 ?side3 ?side4 A179.out).mono ?_); (case side1 => exact xC ((Kd.R_reads' HO602.out).2.2)); (case side2 => exact (Kd.R_reads' HO602.out).2.1); (case side3 => exact xC ((Kd.R_reads' HO606.out).2.2)); (case side4 => exact (Kd.R_reads' HO606.out).2.1); rintro e w' ⟨rfl, ⟨nd, rfl⟩⟩))
           go_meet
           case rel => exact ⟨_, (!t607), (by first | rfl | (simp; done) | (simp [*]; done)), H', ⟨by have := HJ9.out; have := HJ33.out; have := HJ85.out; have := HJ101.out; first | omega | exact Nat.le_refl _⟩, ⟨by (with_reducible repeat (first | apply Kd.R_alloc | apply Kd.R_drewN | apply Kd.R_drew)); exact Kd.R_mono HO596.out (fun _ hk => ⟨hk.1.1, hk.1.2⟩)⟩, ⟨by (with_reducible repeat (first | apply Kd.R_alloc | apply Kd.R_drewN | apply Kd.R_drew)); exact Kd.R_mono HO598.out (fun _ hk => ⟨hk.1.1, hk.1.2⟩)⟩, ⟨by (with_reducible repeat (first | apply Kd.R_alloc | apply Kd.R_drewN | apply Kd.R_drew)); exact Kd.R_mono HO602.out (fun _ hk => ⟨hk.1.1.2, hk.1.2⟩)⟩, ⟨xB HB.out⟩⟩
         case rest => as_aux_lemma =>
          clear HC172
          obtain ⟨kq, x411_171, rfl, HA, HJ171, HO_53, HO_54, HO_55, HB⟩ := hcut
          cases kq with
          | zero => exact absurd HA.out (by simp [laws_FnWeightsMultiply.j7])
          | succ kj171 =>
           have H := HA.out
           clear HA
           simp only [laws_FnWeightsMultiply.j7] at H
           by_cases c182 : x411_171 = true
           ·as_aux_lemma =>
             subst c182
             have H1 := H
             rw [if_pos rfl] at H1
             clear H
             have H := H1
             clear H1
             exact absurd ((Option.some.inj H).trans HRT.out) (by decide)
           replace c182 := Bool.eq_false_iff.mpr c182
           subst c182
           have H1 := H
           rw [if_neg (show ¬ (false = true) by decide)] at H1
           clear H
           have H := H1
           clear H1
           have HC183 := Aside0.mk H
           clear H
           go_upto_if 412 with (fail)
           go_cut [] (fun wc => ∃ (kq : Nat), Aside0 (laws_FnWeightsMultiply.j8 kq l1 = some r) ∧ Aside0 (kq ≤ kj171) ∧ Aside0 (Below w.heap.size w wc))
           case first => as_aux_lemma =>
            have H := HC183.out
            clear HC183
            by_cases c184 : t600 = true
            rotate_left
            ·as_aux_lemma =>
              replace c184 := Bool.eq_false_iff.mpr c184
              subst c184
              have H1 := H
              rw [if_neg (show ¬ (false = true) by decide)] at H1
              clear H
              have H := H1
              clear H1
              have H' := Aside0.mk H
              clear H
              go_wp2
              go_meet
              case rel => exact ⟨_, H', ⟨by have := HJ9.out; have := HJ33.out; have := HJ85.out; have := HJ101.out; have := HJ171.out; first | omega | exact Nat.le_refl _⟩, ⟨xB HB.out⟩⟩
            as_aux_lemma =>
             subst c184
             have H1 := H
             rw [if_pos rfl] at H1
             clear H
             have H := H1
             clear H1
             replace H := Option.bind_eq_some_iff.mp H
             obtain ⟨⟨t608, t609⟩, A1850, H⟩ := H
             (try dsimp only at H)
             have A185 := Aside0.mk A1850
             clear A1850
             by_cases c186 : t609 = true
             rotate_left
             ·replace c186 := Bool.eq_false_iff.mpr c186
              subst c186
              have H1 := H
              rw [if_neg (show ¬ (false = true) by decide)] at H1
              clear H
              have H := H1
              clear H1
              exact absurd ((Option.some.inj H).trans HRT.out) (by decide)
             subst c186
             have H1 := H
             rw [if_pos rfl] at H1
             clear H
             have H := H1
             clear H1
             replace H := Option.bind_eq_some_iff.mp H
             obtain ⟨t612, A1870, H⟩ := H
             (try dsimp only at H)
             have A187 := Aside0.mk A1870
             clear A1870
             by_cases c188 : t612 = true
             rotate_left
             ·replace c188 := Bool.eq_false_iff.mpr c188
              subst c188
              have H1 := H
              rw [if_neg (show ¬ (false = true) by decide)] at H1
              clear H
              have H := H1
              clear H1
              exact absurd ((Option.some.inj H).trans HRT.out) (by decide)
             subst c188
             have H1 := H
             rw [if_pos rfl] at H1
             clear H
             have H := H1
             clear H1
             have H' := Aside0.mk H
             clear H
             obtain ⟨Ao189, co189, eo189⟩ := Kd.R_slice HO_55.out
             subst eo189
             go_wp2_with (first | ((with_reducible refine gate_callee (f := 77) rfl ?_); refine goesL_ (some 416) rfl rfl Try.func77 (by kernel_rfl) rfl #[.slice Ao189 t599.length co189, .slice Ao175 t594.length co175] rfl (by (try simp only [List.map_toArray, List.map_cons, List.map_nil]); first | done | rfl | (simp only [List.length_drop, List.length_take]; rfl)) ?_; (with_reducible refine (impl_TimesWeights.calls kj171 _ _ t599 _ _ t594 t608 true _ ?side1 ?side2 ?side3 ?side4 A185.out).mono ?_); (case side1 => exact xC ((Kd.R_reads' HO_55.out).2.2)); (case side2 => exact (Kd.R_reads' HO_55.out).2.1); (case side3 => exact xC ((Kd.R_reads' HO_54.out).2.2)); (case side4 => exact (Kd.R_reads' HO_54.out).2.1); rintro e w190 ⟨v610, rfl, ho0, hb⟩; refine ⟨_, rfl, ?_⟩; have n0_ := Aside0.mk (Kd.R_elder' (xR HO_53.out) (Kd.R_base ho0) hb); have n1_ := Aside0.mk (Kd.R_elder' (xR HO_54.out) (Kd.R_base ho0) hb); have n2_ := Aside0.mk (Kd.R_elder' (xR HO_55.out) (Kd.R_base ho0) hb); have n3_ := Aside0.mk (Kd.R_lower (Kd.R_new' (Kd.R_new' (Kd.R_new' ho0 (Kd.R_lt (xR HO_53.out))) (Kd.R_lt (xR HO_54.out))) (Kd.R_lt (xR HO_55.out))) (below_size (xB HB.out))); have n4_ := Aside0.mk (below_step (xB HB.out) hb); clear HO_53; clear HO_54; clear HO_55; clear HB; have HO_53 := n0_; have HO_54 := n1_; have HO_55 := n2_; have HO611 := n3_; have HB := n4_; clear n0_ n1_ n2_ n3_ n4_; (try clear hb); (try clear hb2); (try clear hk); (try clear hi); (try clear ho0); obtain ⟨Ao191, co191, eo191⟩ := Kd.R_slice HO611.out; subst eo191) | (go_at_call 21; (with_reducible refine (laws_iSame.calls kj171 _ _ t608 _ _ t593 true _ ?side1 ?side2 ?side3 ?side4 A187.out).mono ?_); (case side1 => exact xC ((Kd.R_reads' HO611.out).2.2)); (case side2 => exact (Kd.R_reads' HO611.out).2.1); (case side3 => exact xC ((Kd.R_reads' HO_53.out).2.2)); (case side4 => exact (Kd.R_reads' HO_53.out).2.1); rintro e w' ⟨rfl, ⟨nd, rfl⟩⟩))
             go_meet
             case rel => exact ⟨_, H', ⟨by have := HJ9.out; have := HJ33.out; have := HJ85.out; have := HJ101.out; have := HJ171.out; first | omega | exact Nat.le_refl _⟩, ⟨xB HB.out⟩⟩
           case rest => as_aux_lemma =>
            clear HC183
            try clear c182
            obtain ⟨kq, HA, HJ182, HB⟩ := hcut
            cases kq with
            | zero => exact absurd HA.out (by simp [laws_FnWeightsMultiply.j8])
            | succ kj182 =>
             have H := HA.out
             clear HA
             simp only [laws_FnWeightsMultiply.j8] at H
             replace H := Option.bind_eq_some_iff.mp H
             obtain ⟨⟨t613, t614⟩, A1920, H⟩ := H
             (try dsimp only at H)
             have A192 := Aside0.mk A1920
             clear A1920
             replace H := Option.bind_eq_some_iff.mp H
             obtain ⟨⟨t617, t618⟩, A1930, H⟩ := H
             (try dsimp only at H)
             have A193 := Aside0.mk A1930
             clear A1930
             replace H := Option.bind_eq_some_iff.mp H
             obtain ⟨⟨t621, t622⟩, A1940, H⟩ := H
             (try dsimp only at H)
             have A194 := Aside0.mk A1940
             clear A1940
             have HC195 := Aside0.mk H
             clear H
             go_upto_region 65 with (first | ((with_reducible refine gate_callee (f := 83) rfl ?_); refine goesL_ (some 429) rfl rfl Try.func83 (by kernel_rfl) rfl #[.slice A1 l1.length c1] rfl (by (try simp only [List.map_toArray, List.map_cons, List.map_nil]); first | done | rfl | (simp only [List.length_drop, List.length_take]; rfl)) ?_; (with_reducible refine (spec_DrawPowerWeights.calls kj182 _ _ l1 t613 t614 _ ?side1 ?side2 A192.out).mono ?_); (case side1 => exact xC (Kd.C_below HR1.out HB.out)); (case side2 => exact HC1.out); rintro e w196 ⟨v615, rfl, ho0, hb⟩; refine ⟨_, rfl, ?_⟩; have n0_ := Aside0.mk (Kd.R_lower ho0 (below_size (xB HB.out))); have n1_ := Aside0.mk (below_step (xB HB.out) hb); clear HB; have HO616 := n0_; have HB := n1_; clear n0_ n1_; (try clear hb); (try clear hb2); (try clear hk); (try clear hi); (try clear ho0); obtain ⟨Ao197, co197, eo197⟩ := Kd.R_slice HO616.out; subst eo197) | ((with_reducible refine gate_callee (f := 84) rfl ?_); refine goesL_ (some 435) rfl rfl Try.func84 (by kernel_rfl) rfl #[.slice Ao197 t613.length co197, .int .i64 t614] rfl (by (try simp only [List.map_toArray, List.map_cons, List.map_nil]); first | done | rfl | (simp only [List.length_drop, List.length_take]; rfl)) ?_; (with_reducible refine (impl_PowerWeights.calls kj182 _ _ t613 t614 t617 t618 _ ?side1 ?side2 A193.out).mono ?_); (case side1 => exact xC ((Kd.R_reads' HO616.out).2.2)); (case side2 => exact (Kd.R_reads' HO616.out).2.1); rintro e w198 ⟨v619, rfl, ho0, hb⟩; refine ⟨_, rfl, ?_⟩; have n0_ := Aside0.mk (Kd.R_elder' (xR HO616.out) (Kd.R_base ho0) hb); have n1_ := Aside0.mk (Kd.R_lower (Kd.R_new' ho0 (Kd.R_lt (xR HO616.out))) (below_size (xB HB.out))); have n2_ := Aside0.mk (below_step (xB HB.out) hb); clear HO616; clear HB; have HO616 := n0_; have HO620 := n1_; have HB := n2_; clear n0_ n1_ n2_; (try clear hb); (try clear hb2); (try clear hk); (try clear hi); (try clear ho0)) | ((with_reducible refine gate_callee (f := 85) rfl ?_); refine goesL_ (some 441) rfl rfl Try.func85 (by kernel_rfl) rfl #[.slice Ao197 t613.length co197, .int .i64 t614] rfl (by (try simp only [List.map_toArray, List.map_cons, List.map_nil]); first | done | rfl | (simp only [List.length_drop, List.length_take]; rfl)) ?_; (with_reducible refine (spec_PowerWeights.calls kj182 _ _ t613 t614 t621 t622 _ ?side1 ?side2 A194.out).mono ?_); (case side1 => exact xC ((Kd.R_reads' HO616.out).2.2)); (case side2 => exact (Kd.R_reads' HO616.out).2.1); rintro e w199 ⟨v623, rfl, ho0, hb⟩; refine ⟨_, rfl, ?_⟩; have n0_ := Aside0.mk (Kd.R_elder' (xR HO616.out) (Kd.R_base ho0) hb); have n1_ := Aside0.mk (Kd.R_elder' (xR HO620.out) (Kd.R_base ho0) hb); have n2_ := Aside0.mk (Kd.R_lower (Kd.R_new' (Kd.R_new' ho0 (Kd.R_lt (xR HO616.out))) (Kd.R_lt (xR HO620.out))) (below_size (xB HB.out))); have n3_ := Aside0.mk (below_step (xB HB.out) hb); clear HO616; clear HO620; clear HB; have HO616 := n0_; have HO620 := n1_; have HO624 := n2_; have HB := n3_; clear n0_ n1_ n2_ n3_; (try clear hb); (try clear hb2); (try clear hk); (try clear hi); (try clear ho0)))
             (try simp only [Act.put, List.setIfInBounds_toArray, List.set_cons_zero, List.set_cons_succ])
             go_cut [452] (fun v452 wc => ∃ (kq : Nat) (x452_194 : Bool), v452 = .bool x452_194 ∧ Aside0 (laws_FnWeightsMultiply.j9 kq t613 t614 t617 t618 x452_194 = some r) ∧ Aside0 (kq ≤ kj182) ∧ Aside0 (Kd.R (Kd.int .i64) 3 wc w.heap.size (fun k_ => some k_ ≠ (v619 : Value).ownBlock) (.slice Ao197 t613.length co197) t613) ∧ Aside0 (Kd.R (Kd.int .i64) 3 wc w.heap.size (fun k_ => some k_ ≠ ((.slice Ao197 t613.length co197) : Value).ownBlock) v619 t617) ∧ Aside0 (Below w.heap.size w wc))
             case first => as_aux_lemma =>
              have H := HC195.out
              clear HC195
              by_cases c200 : (t618 != t622) = true
              ·as_aux_lemma =>
                rw [if_pos c200] at H
                have c200b0 : (t618 != t622) = true := c200
                (try (have c200b1 : decide (t618 = t622) = false := by simpa using c200))
                (try (have c200b2 : (t618 == t622) = false := by simpa using c200))
                (try (have c200b3 : ¬ (t618 = t622) := by simpa using c200))
                clear c200
                (first | rw [c200b0] | (simp only [i64_w, i32_w]; rw [c200b0]) | skip)
                exact absurd H (by have hr_ := HRT.out; cases kj182 <;> simp [laws_FnWeightsMultiply.j9, hr_])
              as_aux_lemma =>
               rw [if_neg c200] at H
               have c200b0 : (t618 != t622) = false := by simpa using c200
               (try (have c200b1 : decide (t618 = t622) = true := by simpa using c200))
               (try (have c200b2 : (t618 == t622) = true := by simpa using c200))
               clear c200
               (first | rw [c200b0] | (simp only [i64_w, i32_w]; rw [c200b0]) | skip)
               replace H := Option.bind_eq_some_iff.mp H
               obtain ⟨t625, A2010, H⟩ := H
               (try dsimp only at H)
               have A201 := Aside0.mk A2010
               clear A2010
               have H' := Aside0.mk H
               clear H
               obtain ⟨Ao202, co202, eo202⟩ := Kd.R_slice HO620.out
               subst eo202
               obtain ⟨Ao203, co203, eo203⟩ := Kd.R_slice HO624.out
               subst eo203
               go_wp2_with (first | (go_at_call 21; (with_reducible refine (laws_iSame.calls kj182 _ _ t617 _ _ t621 t625 _ ?side1 ?side2 ?side3 ?side4 A201.out).mono ?_); (case side1 => exact xC ((Kd.R_reads' HO620.out).2.2)); (case side2 => exact (Kd.R_reads' HO620.out).2.1); (case side3 => exact xC ((Kd.R_reads' HO624.out).2.2)); (case side4 => exact (Kd.R_reads' HO624.out).2.1); rintro e w' ⟨rfl, ⟨nd, rfl⟩⟩))
               go_meet
               case rel => exact ⟨_, (!t625), (by first | rfl | (simp; done) | (simp [*]; done)), H', ⟨by have := HJ9.out; have := HJ33.out; have := HJ85.out; have := HJ101.out; have := HJ171.out; have := HJ182.out; first | omega | exact Nat.le_refl _⟩, ⟨by (with_reducible repeat (first | apply Kd.R_alloc | apply Kd.R_drewN | apply Kd.R_drew)); exact Kd.R_mono HO616.out (fun _ hk => hk.1.2)⟩, ⟨by (with_reducible repeat (first | apply Kd.R_alloc | apply Kd.R_drewN | apply Kd.R_drew)); exact Kd.R_mono HO620.out (fun _ hk => hk.1.2)⟩, ⟨xB HB.out⟩⟩
             case rest => as_aux_lemma =>
              clear HC195
              obtain ⟨kq, x452_194, rfl, HA, HJ194, HO_61, HO_63, HB⟩ := hcut
              cases kq with
              | zero => exact absurd HA.out (by simp [laws_FnWeightsMultiply.j9])
              | succ kj194 =>
               have H := HA.out
               clear HA
               simp only [laws_FnWeightsMultiply.j9] at H
               by_cases c204 : x452_194 = true
               ·as_aux_lemma =>
                 subst c204
                 have H1 := H
                 rw [if_pos rfl] at H1
                 clear H
                 have H := H1
                 clear H1
                 exact absurd ((Option.some.inj H).trans HRT.out) (by decide)
               replace c204 := Bool.eq_false_iff.mpr c204
               subst c204
               have H1 := H
               rw [if_neg (show ¬ (false = true) by decide)] at H1
               clear H
               have H := H1
               clear H1
               have HC205 := Aside0.mk H
               clear H
               go_upto_region 67 with (fail)
               go_cut [457] (fun v457 wc => ∃ (kq : Nat) (x457_204 : Bool), v457 = .bool x457_204 ∧ Aside0 (laws_FnWeightsMultiply.j10 kq t613 t614 t617 x457_204 = some r) ∧ Aside0 (kq ≤ kj194) ∧ Aside0 (Kd.R (Kd.int .i64) 3 wc w.heap.size (fun k_ => some k_ ≠ (v619 : Value).ownBlock) (.slice Ao197 t613.length co197) t613) ∧ Aside0 (Kd.R (Kd.int .i64) 3 wc w.heap.size (fun k_ => some k_ ≠ ((.slice Ao197 t613.length co197) : Value).ownBlock) v619 t617) ∧ Aside0 (Below w.heap.size w wc))
               case first => as_aux_lemma =>
                have H := HC205.out
                clear HC205
                by_cases c206 : t618 = true
                ·as_aux_lemma =>
                  subst c206
                  have H1 := H
                  rw [if_pos rfl] at H1
                  clear H
                  have H := H1
                  clear H1
                  have H' := Aside0.mk H
                  clear H
                  go_wp2
                  go_meet
                  case rel => exact ⟨_, (decide (t614 > 0)), (by first | rfl | (simp; done) | (simp [*]; done)), H', ⟨by have := HJ9.out; have := HJ33.out; have := HJ85.out; have := HJ101.out; have := HJ171.out; have := HJ182.out; have := HJ194.out; first | omega | exact Nat.le_refl _⟩, ⟨xR HO_61.out⟩, ⟨xR HO_63.out⟩, ⟨xB HB.out⟩⟩
                as_aux_lemma =>
                 replace c206 := Bool.eq_false_iff.mpr c206
                 subst c206
                 have H1 := H
                 rw [if_neg (show ¬ (false = true) by decide)] at H1
                 clear H
                 have H := H1
                 clear H1
                 have H' := Aside0.mk H
                 clear H
                 go_wp2
                 go_meet
                 case rel => exact ⟨_, (false), (by first | rfl | (simp; done) | (simp [*]; done)), H', ⟨by have := HJ9.out; have := HJ33.out; have := HJ85.out; have := HJ101.out; have := HJ171.out; have := HJ182.out; have := HJ194.out; first | omega | exact Nat.le_refl _⟩, ⟨xR HO_61.out⟩, ⟨xR HO_63.out⟩, ⟨xB HB.out⟩⟩
               case rest => as_aux_lemma =>
                clear HC205
                try clear c204
                obtain ⟨kq, x457_204, rfl, HA, HJ204, HO_61, HO_63, HB⟩ := hcut
                cases kq with
                | zero => exact absurd HA.out (by simp [laws_FnWeightsMultiply.j10])
                | succ kj204 =>
                 have H := HA.out
                 clear HA
                 simp only [laws_FnWeightsMultiply.j10] at H
                 by_cases c207 : x457_204 = true
                 rotate_left
                 ·as_aux_lemma =>
                   replace c207 := Bool.eq_false_iff.mpr c207
                   subst c207
                   have H1 := H
                   rw [if_neg (show ¬ (false = true) by decide)] at H1
                   clear H
                   have H := H1
                   clear H1
                   obtain rfl := Option.some.inj H
                   go_wp2
                   go_ret
                   exact ⟨by first | rfl | (simp [errW_none, errW_some] <;> rfl) | (simp [*, errW_none, errW_some] <;> rfl), xB HB.out⟩

                 as_aux_lemma =>
                  subst c207
                  have H1 := H
                  rw [if_pos rfl] at H1
                  clear H
                  have H := H1
                  clear H1
                  replace H := Option.bind_eq_some_iff.mp H
                  obtain ⟨⟨t626, t627⟩, A2080, H⟩ := H
                  (try dsimp only at H)
                  have A208 := Aside0.mk A2080
                  clear A2080
                  replace H := Option.bind_eq_some_iff.mp H
                  obtain ⟨⟨t630, t631⟩, A2090, H⟩ := H
                  (try dsimp only at H)
                  have A209 := Aside0.mk A2090
                  clear A2090
                  by_cases c210 : t627 = true
                  rotate_left
                  ·replace c210 := Bool.eq_false_iff.mpr c210
                   subst c210
                   have H1 := H
                   rw [if_neg (show ¬ (false = true) by decide)] at H1
                   clear H
                   have H := H1
                   clear H1
                   exact absurd ((Option.some.inj H).trans HRT.out) (by decide)
                  subst c210
                  have H1 := H
                  rw [if_pos rfl] at H1
                  clear H
                  have H := H1
                  clear H1
                  by_cases c211 : t631 = true
                  rotate_left
                  ·replace c211 := Bool.eq_false_iff.mpr c211
                   subst c211
                   have H1 := H
                   rw [if_neg (show ¬ (false = true) by decide)] at H1
                   clear H
                   have H := H1
                   clear H1
                   exact absurd ((Option.some.inj H).trans HRT.out) (by decide)
                  subst c211
                  have H1 := H
                  rw [if_pos rfl] at H1
                  clear H
                  have H := H1
                  clear H1
                  replace H := Option.bind_eq_some_iff.mp H
                  obtain ⟨t634, A2120, H⟩ := H
                  (try dsimp only at H)
                  have A212 := Aside0.mk A2120
                  clear A2120
                  obtain rfl := Option.some.inj H
                  go_wp2_with (first | ((with_reducible refine gate_callee (f := 84) rfl ?_); refine goesL_ (some 462) rfl rfl Try.func84 (by kernel_rfl) rfl #[.slice Ao197 t613.length co197, .int .i64 (wrap64 (t614 - 1))] rfl (by (try simp only [List.map_toArray, List.map_cons, List.map_nil]); first | done | rfl | (simp only [List.length_drop, List.length_take]; rfl)) ?_; (with_reducible refine (impl_PowerWeights.calls kj204 _ _ t613 (wrap64 (t614 - 1)) t626 true _ ?side1 ?side2 A208.out).mono ?_); (case side1 => exact xC ((Kd.R_reads' HO_61.out).2.2)); (case side2 => exact (Kd.R_reads' HO_61.out).2.1); rintro e w213 ⟨v628, rfl, ho0, hb⟩; refine ⟨_, rfl, ?_⟩; have n0_ := Aside0.mk (Kd.R_elder' (xR HO_61.out) (Kd.R_base ho0) hb); have n1_ := Aside0.mk (Kd.R_elder' (xR HO_63.out) (Kd.R_base ho0) hb); have n2_ := Aside0.mk (Kd.R_lower (Kd.R_new' (Kd.R_new' ho0 (Kd.R_lt (xR HO_61.out))) (Kd.R_lt (xR HO_63.out))) (below_size (xB HB.out))); have n3_ := Aside0.mk (below_step (xB HB.out) hb); clear HO_61; clear HO_63; clear HB; have HO_61 := n0_; have HO_63 := n1_; have HO629 := n2_; have HB := n3_; clear n0_ n1_ n2_ n3_; (try clear hb); (try clear hb2); (try clear hk); (try clear hi); (try clear ho0); obtain ⟨Ao214, co214, eo214⟩ := Kd.R_slice HO629.out; subst eo214) | ((with_reducible refine gate_callee (f := 77) rfl ?_); refine goesL_ (some 468) rfl rfl Try.func77 (by kernel_rfl) rfl #[.slice Ao197 t613.length co197, .slice Ao214 t626.length co214] rfl (by (try simp only [List.map_toArray, List.map_cons, List.map_nil]); first | done | rfl | (simp only [List.length_drop, List.length_take]; rfl)) ?_; (with_reducible refine (impl_TimesWeights.calls kj204 _ _ t613 _ _ t626 t630 true _ ?side1 ?side2 ?side3 ?side4 A209.out).mono ?_); (case side1 => exact xC ((Kd.R_reads' HO_61.out).2.2)); (case side2 => exact (Kd.R_reads' HO_61.out).2.1); (case side3 => exact xC ((Kd.R_reads' HO629.out).2.2)); (case side4 => exact (Kd.R_reads' HO629.out).2.1); rintro e w215 ⟨v632, rfl, ho0, hb⟩; refine ⟨_, rfl, ?_⟩; have n0_ := Aside0.mk (Kd.R_elder' (xR HO_61.out) (Kd.R_base ho0) hb); have n1_ := Aside0.mk (Kd.R_elder' (xR HO_63.out) (Kd.R_base ho0) hb); have n2_ := Aside0.mk (Kd.R_elder' (xR HO629.out) (Kd.R_base ho0) hb); have n3_ := Aside0.mk (Kd.R_lower (Kd.R_new' (Kd.R_new' (Kd.R_new' ho0 (Kd.R_lt (xR HO_61.out))) (Kd.R_lt (xR HO_63.out))) (Kd.R_lt (xR HO629.out))) (below_size (xB HB.out))); have n4_ := Aside0.mk (below_step (xB HB.out) hb); clear HO_61; clear HO_63; clear HO629; clear HB; have HO_61 := n0_; have HO_63 := n1_; have HO629 := n2_; have HO633 := n3_; have HB := n4_; clear n0_ n1_ n2_ n3_ n4_; (try clear hb); (try clear hb2); (try clear hk); (try clear hi); (try clear ho0); obtain ⟨Ao216, co216, eo216⟩ := Kd.R_slice HO633.out; subst eo216; obtain ⟨Ao217, co217, eo217⟩ := Kd.R_slice HO_63.out; subst eo217) | (go_at_call 21; (with_reducible refine (laws_iSame.calls kj204 _ _ t630 _ _ t617 t634 _ ?side1 ?side2 ?side3 ?side4 A212.out).mono ?_); (case side1 => exact xC ((Kd.R_reads' HO633.out).2.2)); (case side2 => exact (Kd.R_reads' HO633.out).2.1); (case side3 => exact xC ((Kd.R_reads' HO_63.out).2.2)); (case side4 => exact (Kd.R_reads' HO_63.out).2.1); rintro e w' ⟨rfl, ⟨nd, rfl⟩⟩))
                  go_ret
                  exact ⟨by first | rfl | (simp [errW_none, errW_some] <;> rfl) | (simp [*, errW_none, errW_some] <;> rfl), xB HB.out⟩
/-- THE ONE PURE STATEMENT of laws_FnWeightsMultiply: yours. -/
def laws_FnWeightsMultiply.Pure : Prop := ∀ (l0 : List Int) (l1 : List Int), l0.length ≤ maxLen → l0.length * 1 ≤ 140737488351232 → (∀ x ∈ l0, (Lit.int .u8 x).wf = true) → l1.length ≤ maxLen → l1.length * 1 ≤ 140737488351232 → (∀ x ∈ l1, (Lit.int .u8 x).wf = true) → ∃ k, laws_FnWeightsMultiply.f k l0 l1 = some true
theorem laws_FnWeightsMultiply.walk (P : laws_FnWeightsMultiply.Pure) (a0 : Option Addr) (len0 cap0 : Nat) (z0 : List Int) (a1 : Option Addr) (len1 cap1 : Nat) (z1 : List Int) (w : World) (w0 : (a0 = none ∧ len0 = 0 ∧ cap0 = 0 ∧ z0 = []) ∨ ∃ x, a0 = some x ∧ len0 ≤ cap0 ∧ cap0 ≤ maxLen ∧ z0.length = cap0 ∧ (∀ i, i < z0.length → w.cell? (x.add i) = some (.int .u8 (z0.getD i 0))) ∧ ∀ n ∈ z0, (Lit.int .u8 n).wf = true) (y0 : len0 * 1 ≤ 140737488351232) (w1 : (a1 = none ∧ len1 = 0 ∧ cap1 = 0 ∧ z1 = []) ∨ ∃ x, a1 = some x ∧ len1 ≤ cap1 ∧ cap1 ≤ maxLen ∧ z1.length = cap1 ∧ (∀ i, i < z1.length → w.cell? (x.add i) = some (.int .u8 (z1.getD i 0))) ∧ ∀ n ∈ z1, (Lit.int .u8 n).wf = true) (y1 : len1 * 1 ≤ 140737488351232) :
  Calls Try.prog 6 #[.slice a0 len0 cap0, .slice a1 len1 cap1] w fun e w' => e = .returned (.bool true) ∧ Below w.heap.size w w' := by
 obtain ⟨l0, rfl, hr0, hm0, hw0, hc0⟩ := ReadsInt.ofRowC w0
 obtain ⟨l1, rfl, hr1, hm1, hw1, hc1⟩ := ReadsInt.ofRowC w1
 obtain ⟨k, h⟩ := P l0 l1 hm0 y0 hw0 hm1 y1 hw1
 refine (laws_FnWeightsMultiply.calls k _ _ l0 _ _ l1 true w (Kd.C_of_reads (d := (0 : Int)) (h1 := fun _ => rfl) hr0) hc0 (Kd.C_of_reads (d := (0 : Int)) (h1 := fun _ => rfl) hr1) hc1 h rfl).mono ?_
 rintro e w' ⟨rfl, hd⟩
 exact ⟨rfl, hd⟩

end Go.Proofs.Ytjplcongellcmaa.PFnWeightsMultiply
