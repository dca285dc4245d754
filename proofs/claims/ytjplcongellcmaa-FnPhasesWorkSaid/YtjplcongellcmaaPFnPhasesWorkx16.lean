/- What each Go function that the statement FnPhasesWork reaches answers, proved call by call. No condition beyond those that the theorems print. (Written by wip/tools/xprint.py of this repo, over the kit's print.) -/
import Derived.Test.YtjplcongellcmaaPFnPhasesWorkx0
import Derived.Test.YtjplcongellcmaaPFnPhasesWorkx1
import Derived.Test.YtjplcongellcmaaPFnPhasesWorkx2
import Derived.Test.YtjplcongellcmaaPFnPhasesWorkx4
import Derived.Test.YtjplcongellcmaaPFnPhasesWorkx5
import Derived.Test.YtjplcongellcmaaPFnPhasesWorkx6
import Derived.Test.YtjplcongellcmaaPFnPhasesWorkx7
import Derived.Test.YtjplcongellcmaaPFnPhasesWorkx8
import Derived.Test.YtjplcongellcmaaPFnPhasesWorkx9
import Derived.Test.YtjplcongellcmaaPFnPhasesWorkx10
import Derived.Test.YtjplcongellcmaaPFnPhasesWorkx11
import Derived.Test.YtjplcongellcmaaPFnPhasesWorkx12
import Derived.Test.YtjplcongellcmaaPFnPhasesWorkx13
import Derived.Test.YtjplcongellcmaaPFnPhasesWorkx14
import Derived.Test.YtjplcongellcmaaPFnPhasesWorkx15
namespace Go.Proofs.Ytjplcongellcmaa.PFnPhasesWork
open Go.RowKit Go.Proofs.YtjplcongellcmaaW.PrintWords Go.Proofs.YtjplcongellcmaaW.PrintLast Go.Proofs.YtjplcongellcmaaW.PrintMore
attribute [local go_sem] max2_int min2_int max_two min_two max_three min_three max_four min_four   -- for this text's walks alone
set_option linter.unusedVariables false
set_option linter.unusedSimpArgs false

/-! ### laws_FnPhasesWork: function 11 -/
mutual
def laws_FnPhasesWork.j0 : Nat → List Int → List Int → List Int → Int → Int → List Int → Bool → Bool → Option (Bool)
 | 0, _, _, _, _, _, _, _, _ => none
 | k + 1, x1, x5, x6, x7, x8, x9, x10, x164 => if x164 = true then (some false) else (if x10 = true then ((impl_LengthAfter.f (x6.length : Int) x7 x8).bind fun bt758 => ((impl_ProductsDirect.f k x5 (x6.length : Int) x7 x8).bind fun bt760 => ((impl_ProductsByPhases.f k x5 (x6.length : Int) x7 x8).bind fun bt762 => (if bt758.2 = true then (if (x9.length : Int) = bt758.1 then (if bt760.2 = true then (if bt762.2 = true then (laws_FnPhasesWork.j1 k x1 x5 x6 x7 x8 x9 (decide (bt762.1 > bt760.1))) else (laws_FnPhasesWork.j1 k x1 x5 x6 x7 x8 x9 true)) else (laws_FnPhasesWork.j1 k x1 x5 x6 x7 x8 x9 true)) else (laws_FnPhasesWork.j1 k x1 x5 x6 x7 x8 x9 true)) else (laws_FnPhasesWork.j1 k x1 x5 x6 x7 x8 x9 true))))) else (laws_FnPhasesWork.j4 k x1))
def laws_FnPhasesWork.j4 : Nat → List Int → Option (Bool)
 | 0, _ => none
 | k + 1, x1 => (spec_DrawPhasesOf.f k x1).bind fun bt787 => ((impl_PhasesOf.f k bt787.1 bt787.2).bind fun bt791 => ((spec_PhasesOf.f k bt787.1 bt787.2).bind fun bt795 => ((spec_DrawJoinPhases.f k x1).bind fun t799 => ((impl_JoinPhases.f k t799).bind fun bt802 => ((spec_JoinPhases.f k t799).bind fun bt806 => (if (bt791.2 != bt795.2) = true then (laws_FnPhasesWork.j5 k x1 bt787.1 bt787.2 bt791.1 bt791.2 t799 bt802.1 bt802.2 true) else ((laws_iRows.f k bt791.1 bt795.1).bind fun t810 => (if t810 = true then (if (bt802.2 != bt806.2) = true then (laws_FnPhasesWork.j5 k x1 bt787.1 bt787.2 bt791.1 bt791.2 t799 bt802.1 bt802.2 true) else ((laws_iSame.f k bt802.1 bt806.1).bind fun t811 => (laws_FnPhasesWork.j5 k x1 bt787.1 bt787.2 bt791.1 bt791.2 t799 bt802.1 bt802.2 (!t811)))) else (laws_FnPhasesWork.j5 k x1 bt787.1 bt787.2 bt791.1 bt791.2 t799 bt802.1 bt802.2 true)))))))))
def laws_FnPhasesWork.j5 : Nat → List Int → List Int → Int → List (List Int) → Bool → List (List Int) → List Int → Bool → Bool → Option (Bool)
 | 0, _, _, _, _, _, _, _, _, _ => none
 | k + 1, x1, x33, x34, x35, x36, x39, x40, x41, x321 => if x321 = true then (some false) else (if x36 = true then ((impl_JoinPhases.f k x35).bind fun bt812 => (if bt812.2 = true then ((laws_iSame.f k bt812.1 x33).bind fun t816 => (if t816 = true then (if (x35.length : Int) = x34 then (laws_FnPhasesWork.j6 k x1 x39 x40 x41) else (some false)) else (some false))) else (some false))) else (laws_FnPhasesWork.j6 k x1 x39 x40 x41))
def laws_FnPhasesWork.j6 : Nat → List Int → List (List Int) → List Int → Bool → Option (Bool)
 | 0, _, _, _, _ => none
 | k + 1, x1, x39, x40, x41 => if x41 = true then ((impl_PhasesOf.f k x40 (x39.length : Int)).bind fun bt817 => (if bt817.2 = true then ((laws_iRows.f k bt817.1 x39).bind fun t821 => (if t821 = true then (laws_FnPhasesWork.j7 k x1) else (some false))) else (some false))) else (laws_FnPhasesWork.j7 k x1)
def laws_FnPhasesWork.j7 : Nat → List Int → Option (Bool)
 | 0, _ => none
 | k + 1, x1 => (spec_DrawTwoBands.f k x1).bind fun t822 => ((impl_TwoBands.f k t822).bind fun bt825 => ((spec_TwoBands.f k t822).bind fun bt832 => ((spec_DrawJoinBands.f k x1).bind fun bt839 => ((impl_JoinBands.f k bt839.1 bt839.2).bind fun bt845 => ((spec_JoinBands.f k bt839.1 bt839.2).bind fun bt849 => (if (bt825.2.2 != bt832.2.2) = true then (laws_FnPhasesWork.j8 k x1 t822 bt825.1 bt825.2.1 bt825.2.2 bt839.1 bt839.2 bt845.1 bt845.2 true) else ((laws_iSame.f k bt825.1 bt832.1).bind fun t853 => (if t853 = true then ((laws_iSame.f k bt825.2.1 bt832.2.1).bind fun t854 => (if t854 = true then (if (bt845.2 != bt849.2) = true then (laws_FnPhasesWork.j8 k x1 t822 bt825.1 bt825.2.1 bt825.2.2 bt839.1 bt839.2 bt845.1 bt845.2 true) else ((laws_iSame.f k bt845.1 bt849.1).bind fun t855 => (laws_FnPhasesWork.j8 k x1 t822 bt825.1 bt825.2.1 bt825.2.2 bt839.1 bt839.2 bt845.1 bt845.2 (!t855)))) else (laws_FnPhasesWork.j8 k x1 t822 bt825.1 bt825.2.1 bt825.2.2 bt839.1 bt839.2 bt845.1 bt845.2 true))) else (laws_FnPhasesWork.j8 k x1 t822 bt825.1 bt825.2.1 bt825.2.2 bt839.1 bt839.2 bt845.1 bt845.2 true)))))))))
def laws_FnPhasesWork.j8 : Nat → List Int → List Int → List Int → List Int → Bool → List Int → List Int → List Int → Bool → Bool → Option (Bool)
 | 0, _, _, _, _, _, _, _, _, _, _ => none
 | k + 1, x1, x48, x49, x50, x51, x55, x56, x57, x58, x414 => if x414 = true then (some false) else (if x51 = true then ((impl_JoinBands.f k x49 x50).bind fun bt856 => (if bt856.2 = true then ((laws_iSame.f k bt856.1 x48).bind fun t860 => (if t860 = true then (laws_FnPhasesWork.j9 k x1 x55 x56 x57 x58) else (some false))) else (some false))) else (laws_FnPhasesWork.j9 k x1 x55 x56 x57 x58))
def laws_FnPhasesWork.j9 : Nat → List Int → List Int → List Int → List Int → Bool → Option (Bool)
 | 0, _, _, _, _, _ => none
 | k + 1, x1, x55, x56, x57, x58 => if x58 = true then ((impl_TwoBands.f k x57).bind fun bt861 => (if bt861.2.2 = true then ((laws_iSame.f k bt861.1 x55).bind fun t868 => (if t868 = true then ((laws_iSame.f k bt861.2.1 x56).bind fun t869 => (if t869 = true then (laws_FnPhasesWork.j10 k x1) else (some false))) else (some false))) else (some false))) else (laws_FnPhasesWork.j10 k x1)
def laws_FnPhasesWork.j10 : Nat → List Int → Option (Bool)
 | 0, _ => none
 | k + 1, x1 => (spec_DrawProductsDirect.f k x1).bind fun bt870 => ((impl_ProductsDirect.f k bt870.1 bt870.2.1 bt870.2.2.1 bt870.2.2.2).bind fun bt876 => ((spec_ProductsDirect.f k bt870.1 bt870.2.1 bt870.2.2.1 bt870.2.2.2).bind fun bt878 => ((impl_ProductsByPhases.f k bt870.1 bt870.2.1 bt870.2.2.1 bt870.2.2.2).bind fun bt880 => ((spec_ProductsByPhases.f k bt870.1 bt870.2.1 bt870.2.2.1 bt870.2.2.2).bind fun bt882 => ((spec_DrawDownFilter.f k x1).bind fun bt884 => ((impl_DownFilter.f k bt884.1 bt884.2.1 bt884.2.2).bind fun bt891 => ((spec_DownFilter.f k bt884.1 bt884.2.1 bt884.2.2).bind fun bt895 => ((spec_DrawUpFilter.f k x1).bind fun bt899 => ((impl_UpFilter.f k bt899.1 bt899.2.1 bt899.2.2).bind fun bt906 => ((spec_UpFilter.f k bt899.1 bt899.2.1 bt899.2.2).bind fun bt910 => (if (bt876.2 == bt878.2) = true then (if bt876.1 = bt878.1 then (if (bt880.2 == bt882.2) = true then (if bt880.1 = bt882.1 then (if (bt891.2 == bt895.2) = true then ((laws_iSame.f k bt891.1 bt895.1).bind fun t914 => (if t914 = true then (if (bt906.2 == bt910.2) = true then ((laws_iSame.f k bt906.1 bt910.1).bind fun t915 => (some t915)) else (some false)) else (some false))) else (some false)) else (some false)) else (some false)) else (some false)) else (some false))))))))))))
def laws_FnPhasesWork.j1 : Nat → List Int → List Int → List Int → Int → Int → List Int → Bool → Option (Bool)
 | 0, _, _, _, _, _, _, _ => none
 | k + 1, x1, x5, x6, x7, x8, x9, x212 => if x212 = true then (some false) else ((impl_UpFilter.f k x5 x6 x7).bind fun bt764 => (if bt764.2 = true then ((impl_DropSamples.f k bt764.1 x8 0).bind fun bt768 => (if bt768.2 = true then ((laws_iSame.f k bt768.1 x9).bind fun t772 => (if t772 = true then (laws_FnPhasesWork.j2 k x1 x5 x6 x7 x8 x9) else (some false))) else (some false))) else (laws_FnPhasesWork.j2 k x1 x5 x6 x7 x8 x9)))
def laws_FnPhasesWork.j2 : Nat → List Int → List Int → List Int → Int → Int → List Int → Option (Bool)
 | 0, _, _, _, _, _, _ => none
 | k + 1, x1, x5, x6, x7, x8, x9 => if x7 = 1 then ((impl_DownFilter.f k x5 x6 x8).bind fun bt773 => ((impl_FilterShort.f k x5 x6).bind fun bt777 => (if bt773.2 = true then ((laws_iSame.f k bt773.1 x9).bind fun t781 => (laws_FnPhasesWork.j3 k x1 x8 bt773.1 bt777.1 bt777.2 (!t781))) else (laws_FnPhasesWork.j3 k x1 x8 bt773.1 bt777.1 bt777.2 true)))) else (laws_FnPhasesWork.j4 k x1)
def laws_FnPhasesWork.j3 : Nat → List Int → Int → List Int → List Int → Bool → Bool → Option (Bool)
 | 0, _, _, _, _, _, _ => none
 | k + 1, x1, x8, x27, x29, x30, x257 => if x257 = true then (some false) else (if x30 = true then ((impl_DropSamples.f k x29 x8 0).bind fun bt782 => (if bt782.2 = true then ((laws_iSame.f k bt782.1 x27).bind fun t786 => (if t786 = true then (laws_FnPhasesWork.j4 k x1) else (some false))) else (some false))) else (laws_FnPhasesWork.j4 k x1))
end
def laws_FnPhasesWork.f (k : Nat) (l0 : List Int) (l1 : List Int) : Option (Bool) := (laws_big.f l0 l1).bind fun t730 => (if t730 = true then (some true) else ((spec_DrawUpFilterDown.f k l0).bind fun bt731 => ((impl_UpFilterDown.f k bt731.1 bt731.2.1 bt731.2.2.1 bt731.2.2.2).bind fun bt739 => ((spec_UpFilterDown.f k bt731.1 bt731.2.1 bt731.2.2.1 bt731.2.2.2).bind fun bt743 => ((impl_ByPhases.f k bt731.1 bt731.2.1 bt731.2.2.1 bt731.2.2.2).bind fun bt747 => ((spec_ByPhases.f k bt731.1 bt731.2.1 bt731.2.2.1 bt731.2.2.2).bind fun bt751 => (if (bt739.2 != bt743.2) = true then (laws_FnPhasesWork.j0 k l1 bt731.1 bt731.2.1 bt731.2.2.1 bt731.2.2.2 bt739.1 bt739.2 true) else ((laws_iSame.f k bt739.1 bt743.1).bind fun t755 => (if t755 = true then (if (bt747.2 != bt751.2) = true then (laws_FnPhasesWork.j0 k l1 bt731.1 bt731.2.1 bt731.2.2.1 bt731.2.2.2 bt739.1 bt739.2 true) else ((laws_iSame.f k bt747.1 bt751.1).bind fun t756 => (if t756 = true then (if (bt747.2 != bt739.2) = true then (laws_FnPhasesWork.j0 k l1 bt731.1 bt731.2.1 bt731.2.2.1 bt731.2.2.2 bt739.1 bt739.2 true) else ((laws_iSame.f k bt739.1 bt747.1).bind fun t757 => (laws_FnPhasesWork.j0 k l1 bt731.1 bt731.2.1 bt731.2.2.1 bt731.2.2.2 bt739.1 bt739.2 (!t757)))) else (laws_FnPhasesWork.j0 k l1 bt731.1 bt731.2.1 bt731.2.2.1 bt731.2.2.2 bt739.1 bt739.2 true)))) else (laws_FnPhasesWork.j0 k l1 bt731.1 bt731.2.1 bt731.2.2.1 bt731.2.2.2 bt739.1 bt739.2 true))))))))))
theorem laws_FnPhasesWork.mono_l : ∀ k, (∀ y0 y1 y2 y3 y4 y5 y6 y7, LeO (laws_FnPhasesWork.j0 k y0 y1 y2 y3 y4 y5 y6 y7) (laws_FnPhasesWork.j0 (k + 1) y0 y1 y2 y3 y4 y5 y6 y7)) ∧ (∀ y0, LeO (laws_FnPhasesWork.j4 k y0) (laws_FnPhasesWork.j4 (k + 1) y0)) ∧ (∀ y0 y1 y2 y3 y4 y5 y6 y7 y8, LeO (laws_FnPhasesWork.j5 k y0 y1 y2 y3 y4 y5 y6 y7 y8) (laws_FnPhasesWork.j5 (k + 1) y0 y1 y2 y3 y4 y5 y6 y7 y8)) ∧ (∀ y0 y1 y2 y3, LeO (laws_FnPhasesWork.j6 k y0 y1 y2 y3) (laws_FnPhasesWork.j6 (k + 1) y0 y1 y2 y3)) ∧ (∀ y0, LeO (laws_FnPhasesWork.j7 k y0) (laws_FnPhasesWork.j7 (k + 1) y0)) ∧ (∀ y0 y1 y2 y3 y4 y5 y6 y7 y8 y9, LeO (laws_FnPhasesWork.j8 k y0 y1 y2 y3 y4 y5 y6 y7 y8 y9) (laws_FnPhasesWork.j8 (k + 1) y0 y1 y2 y3 y4 y5 y6 y7 y8 y9)) ∧ (∀ y0 y1 y2 y3 y4, LeO (laws_FnPhasesWork.j9 k y0 y1 y2 y3 y4) (laws_FnPhasesWork.j9 (k + 1) y0 y1 y2 y3 y4)) ∧ (∀ y0, LeO (laws_FnPhasesWork.j10 k y0) (laws_FnPhasesWork.j10 (k + 1) y0)) ∧ (∀ y0 y1 y2 y3 y4 y5 y6, LeO (laws_FnPhasesWork.j1 k y0 y1 y2 y3 y4 y5 y6) (laws_FnPhasesWork.j1 (k + 1) y0 y1 y2 y3 y4 y5 y6)) ∧ (∀ y0 y1 y2 y3 y4 y5, LeO (laws_FnPhasesWork.j2 k y0 y1 y2 y3 y4 y5) (laws_FnPhasesWork.j2 (k + 1) y0 y1 y2 y3 y4 y5)) ∧ (∀ y0 y1 y2 y3 y4 y5, LeO (laws_FnPhasesWork.j3 k y0 y1 y2 y3 y4 y5) (laws_FnPhasesWork.j3 (k + 1) y0 y1 y2 y3 y4 y5))
 | 0 => ⟨fun _ _ _ _ _ _ _ _ r h => by simp [laws_FnPhasesWork.j0] at h, fun _ r h => by simp [laws_FnPhasesWork.j4] at h, fun _ _ _ _ _ _ _ _ _ r h => by simp [laws_FnPhasesWork.j5] at h, fun _ _ _ _ r h => by simp [laws_FnPhasesWork.j6] at h, fun _ r h => by simp [laws_FnPhasesWork.j7] at h, fun _ _ _ _ _ _ _ _ _ _ r h => by simp [laws_FnPhasesWork.j8] at h, fun _ _ _ _ _ r h => by simp [laws_FnPhasesWork.j9] at h, fun _ r h => by simp [laws_FnPhasesWork.j10] at h, fun _ _ _ _ _ _ _ r h => by simp [laws_FnPhasesWork.j1] at h, fun _ _ _ _ _ _ r h => by simp [laws_FnPhasesWork.j2] at h, fun _ _ _ _ _ _ r h => by simp [laws_FnPhasesWork.j3] at h⟩
 | k + 1 => by
  obtain ⟨ih0, ih1, ih2, ih3, ih4, ih5, ih6, ih7, ih8, ih9, ih10⟩ := laws_FnPhasesWork.mono_l k
  have m0 := @impl_ByPhases.mono
  have m1 := @impl_DownFilter.mono
  have m2 := @impl_DropSamples.mono
  have m3 := @impl_FilterShort.mono
  have m4 := @impl_JoinBands.mono
  have m5 := @impl_JoinPhases.mono
  have m6 := @impl_PhasesOf.mono
  have m7 := @impl_ProductsByPhases.mono
  have m8 := @impl_ProductsDirect.mono
  have m9 := @impl_TwoBands.mono
  have m10 := @impl_UpFilter.mono
  have m11 := @impl_UpFilterDown.mono
  have m12 := @laws_iRows.mono
  have m13 := @laws_iSame.mono
  have m14 := @spec_ByPhases.mono
  have m15 := @spec_DownFilter.mono
  have m16 := @spec_DrawDownFilter.mono
  have m17 := @spec_DrawJoinBands.mono
  have m18 := @spec_DrawJoinPhases.mono
  have m19 := @spec_DrawPhasesOf.mono
  have m20 := @spec_DrawProductsDirect.mono
  have m21 := @spec_DrawTwoBands.mono
  have m22 := @spec_DrawUpFilter.mono
  have m23 := @spec_DrawUpFilterDown.mono
  have m24 := @spec_JoinBands.mono
  have m25 := @spec_JoinPhases.mono
  have m26 := @spec_PhasesOf.mono
  have m27 := @spec_ProductsByPhases.mono
  have m28 := @spec_ProductsDirect.mono
  have m29 := @spec_TwoBands.mono
  have m30 := @spec_UpFilter.mono
  have m31 := @spec_UpFilterDown.mono
  refine ⟨?_, ?_, ?_, ?_, ?_, ?_, ?_, ?_, ?_, ?_, ?_⟩ <;> intros
  ·unfold laws_FnPhasesWork.j0; exact xM
  ·unfold laws_FnPhasesWork.j4; exact xM
  ·unfold laws_FnPhasesWork.j5; exact xM
  ·unfold laws_FnPhasesWork.j6; exact xM
  ·unfold laws_FnPhasesWork.j7; exact xM
  ·unfold laws_FnPhasesWork.j8; exact xM
  ·unfold laws_FnPhasesWork.j9; exact xM
  ·unfold laws_FnPhasesWork.j10; exact xM
  ·unfold laws_FnPhasesWork.j1; exact xM
  ·unfold laws_FnPhasesWork.j2; exact xM
  ·unfold laws_FnPhasesWork.j3; exact xM
theorem laws_FnPhasesWork.mono : ∀ a0 a1 k, LeO (laws_FnPhasesWork.f k a0 a1) (laws_FnPhasesWork.f (k + 1) a0 a1) := by
 intro a0 a1 k
 obtain ⟨ih0, ih1, ih2, ih3, ih4, ih5, ih6, ih7, ih8, ih9, ih10⟩ := laws_FnPhasesWork.mono_l k
 have m0 := @impl_ByPhases.mono
 have m1 := @impl_DownFilter.mono
 have m2 := @impl_DropSamples.mono
 have m3 := @impl_FilterShort.mono
 have m4 := @impl_JoinBands.mono
 have m5 := @impl_JoinPhases.mono
 have m6 := @impl_PhasesOf.mono
 have m7 := @impl_ProductsByPhases.mono
 have m8 := @impl_ProductsDirect.mono
 have m9 := @impl_TwoBands.mono
 have m10 := @impl_UpFilter.mono
 have m11 := @impl_UpFilterDown.mono
 have m12 := @laws_iRows.mono
 have m13 := @laws_iSame.mono
 have m14 := @spec_ByPhases.mono
 have m15 := @spec_DownFilter.mono
 have m16 := @spec_DrawDownFilter.mono
 have m17 := @spec_DrawJoinBands.mono
 have m18 := @spec_DrawJoinPhases.mono
 have m19 := @spec_DrawPhasesOf.mono
 have m20 := @spec_DrawProductsDirect.mono
 have m21 := @spec_DrawTwoBands.mono
 have m22 := @spec_DrawUpFilter.mono
 have m23 := @spec_DrawUpFilterDown.mono
 have m24 := @spec_JoinBands.mono
 have m25 := @spec_JoinPhases.mono
 have m26 := @spec_PhasesOf.mono
 have m27 := @spec_ProductsByPhases.mono
 have m28 := @spec_ProductsDirect.mono
 have m29 := @spec_TwoBands.mono
 have m30 := @spec_UpFilter.mono
 have m31 := @spec_UpFilterDown.mono
 unfold laws_FnPhasesWork.f
 exact xM
set_option maxHeartbeats 200000000 in
set_option maxRecDepth 100000 in
theorem laws_FnPhasesWork.calls (k : Nat) (A0 : Option Addr) (c0 : Nat) (l0 : List Int) (A1 : Option Addr) (c1 : Nat) (l1 : List Int) (r : Bool) (w : World) (hr0 : Kd.C (Kd.int .u8) w A0 l0.length l0) (hc0 : l0.length ≤ c0) (hr1 : Kd.C (Kd.int .u8) w A1 l1.length l1) (hc1 : l1.length ≤ c1) (h : laws_FnPhasesWork.f k l0 l1 = some r) (hr_ : r = true) :
  Calls Try.prog 11 #[.slice A0 l0.length c0, .slice A1 l1.length c1] w fun e w' => e = .returned (.bool r) ∧ Below w.heap.size w w' := by
 have HRT := Aside0.mk hr_
 clear hr_
 have HR0 := Aside0.mk hr0
 have HC0 := Aside0.mk hc0
 clear hr0 hc0
 have HR1 := Aside0.mk hr1
 have HC1 := Aside0.mk hc1
 clear hr1 hc1
 have HB := Aside0.mk (Below.refl w.heap.size w)
 have H : ((laws_big.f l0 l1).bind fun t730 => (if t730 = true then (some true) else ((spec_DrawUpFilterDown.f k l0).bind fun bt731 => ((impl_UpFilterDown.f k bt731.1 bt731.2.1 bt731.2.2.1 bt731.2.2.2).bind fun bt739 => ((spec_UpFilterDown.f k bt731.1 bt731.2.1 bt731.2.2.1 bt731.2.2.2).bind fun bt743 => ((impl_ByPhases.f k bt731.1 bt731.2.1 bt731.2.2.1 bt731.2.2.2).bind fun bt747 => ((spec_ByPhases.f k bt731.1 bt731.2.1 bt731.2.2.1 bt731.2.2.2).bind fun bt751 => (if (bt739.2 != bt743.2) = true then (laws_FnPhasesWork.j0 k l1 bt731.1 bt731.2.1 bt731.2.2.1 bt731.2.2.2 bt739.1 bt739.2 true) else ((laws_iSame.f k bt739.1 bt743.1).bind fun t755 => (if t755 = true then (if (bt747.2 != bt751.2) = true then (laws_FnPhasesWork.j0 k l1 bt731.1 bt731.2.1 bt731.2.2.1 bt731.2.2.2 bt739.1 bt739.2 true) else ((laws_iSame.f k bt747.1 bt751.1).bind fun t756 => (if t756 = true then (if (bt747.2 != bt739.2) = true then (laws_FnPhasesWork.j0 k l1 bt731.1 bt731.2.1 bt731.2.2.1 bt731.2.2.2 bt739.1 bt739.2 true) else ((laws_iSame.f k bt739.1 bt747.1).bind fun t757 => (laws_FnPhasesWork.j0 k l1 bt731.1 bt731.2.1 bt731.2.2.1 bt731.2.2.2 bt739.1 bt739.2 (!t757)))) else (laws_FnPhasesWork.j0 k l1 bt731.1 bt731.2.1 bt731.2.2.1 bt731.2.2.2 bt739.1 bt739.2 true)))) else (laws_FnPhasesWork.j0 k l1 bt731.1 bt731.2.1 bt731.2.2.1 bt731.2.2.2 bt739.1 bt739.2 true))))))))))) = some r := h
 clear h
 obtain ⟨t730, A3, H⟩ := xO H
 (try dsimp only at H)
 by_cases c4 : t730 = true
 ·as_aux_lemma =>
   subst c4
   rw [if_pos rfl] at H
   obtain rfl := Option.some.inj H
   go_enter Try.func11, Try.ntmps11
   go_wp2_with (first | (refine xG (some 94) Try.func13 #[.slice A0 l0.length c0, .slice A1 l1.length c1] ?_; (with_reducible refine (laws_big.calls _ _ l0 _ _ l1 true _ ?side1 ?side2 ?side3 ?side4 A3.out).mono ?_); (case side1 => exact xC HR0.out); (case side2 => exact HC0.out); (case side3 => exact xC HR1.out); (case side4 => exact HC1.out); rintro e w' ⟨rfl, ⟨nd, rfl⟩⟩; refine ⟨_, rfl, ?_⟩))
   go_ret
   exact ⟨by first | rfl | (simp [errW_none, errW_some] <;> rfl) | (simp [*, errW_none, errW_some] <;> rfl), xB HB.out⟩
 replace c4 := Bool.eq_false_iff.mpr c4
 subst c4
 rw [if_neg (show ¬ (false = true) by decide)] at H
 replace H := Option.bind_eq_some_iff.mp H
 obtain ⟨⟨t731, t732, t733, t734⟩, A50, H⟩ := H
 (try dsimp only at H)
 have A5 := Aside0.mk A50
 clear A50
 replace H := Option.bind_eq_some_iff.mp H
 obtain ⟨⟨t739, t740⟩, A60, H⟩ := H
 (try dsimp only at H)
 have A6 := Aside0.mk A60
 clear A60
 replace H := Option.bind_eq_some_iff.mp H
 obtain ⟨⟨t743, t744⟩, A70, H⟩ := H
 (try dsimp only at H)
 have A7 := Aside0.mk A70
 clear A70
 replace H := Option.bind_eq_some_iff.mp H
 obtain ⟨⟨t747, t748⟩, A80, H⟩ := H
 (try dsimp only at H)
 have A8 := Aside0.mk A80
 clear A80
 replace H := Option.bind_eq_some_iff.mp H
 obtain ⟨⟨t751, t752⟩, A90, H⟩ := H
 (try dsimp only at H)
 have A9 := Aside0.mk A90
 clear A90
 have HC10 := Aside0.mk H
 clear H
 go_enter Try.func11, Try.ntmps11
 go_upto_region 8 with (first | (refine xG (some 94) Try.func13 #[.slice A0 l0.length c0, .slice A1 l1.length c1] ?_; (with_reducible refine (laws_big.calls _ _ l0 _ _ l1 false _ ?side1 ?side2 ?side3 ?side4 A3.out).mono ?_); (case side1 => exact xC HR0.out); (case side2 => exact HC0.out); (case side3 => exact xC HR1.out); (case side4 => exact HC1.out); rintro e w' ⟨rfl, ⟨nd, rfl⟩⟩; refine ⟨_, rfl, ?_⟩) | (refine xG (some 97) Try.func158 #[.slice A0 l0.length c0] ?_; (with_reducible refine (spec_DrawUpFilterDown.calls k _ _ l0 t731 t732 t733 t734 _ ?side1 ?side2 A5.out).mono ?_); (case side1 => exact xC HR0.out); (case side2 => exact HC0.out); rintro e w11 ⟨v735, v737, rfl, ho0, ho1, hb⟩; refine ⟨_, rfl, ?_⟩; have HO736 := Aside0.mk (Kd.R_lower ho0 (below_size (xB HB.out))); have HO738 := Aside0.mk (Kd.R_lower ho1 (below_size (xB HB.out))); replace HB := Aside0.mk (below_step (xB HB.out) hb); (try clear hb); (try clear hb2); (try clear hk); (try clear hi); (try clear ho0); (try clear ho1); obtain ⟨Ao12, co12, eo12⟩ := Kd.R_slice HO736.out; subst eo12; obtain ⟨Ao13, co13, eo13⟩ := Kd.R_slice HO738.out; subst eo13) | (refine xG (some 107) Try.func159 #[.slice Ao12 t731.length co12, .slice Ao13 t732.length co13, .int .i64 t733, .int .i64 t734] ?_; (with_reducible refine (impl_UpFilterDown.calls k _ _ t731 _ _ t732 t733 t734 t739 t740 _ ?side1 ?side2 ?side3 ?side4 A6.out).mono ?_); (case side1 => exact xC ((Kd.R_reads' HO736.out).2.2)); (case side2 => exact (Kd.R_reads' HO736.out).2.1); (case side3 => exact xC ((Kd.R_reads' HO738.out).2.2)); (case side4 => exact (Kd.R_reads' HO738.out).2.1); rintro e w14 ⟨v741, rfl, ho0, hb⟩; refine ⟨_, rfl, ?_⟩; have HO742 := Aside0.mk (Kd.R_lower (Kd.R_new' (Kd.R_new' ho0 (Kd.R_lt (xR HO736.out))) (Kd.R_lt (xR HO738.out))) (below_size (xB HB.out))); replace HO736 := Aside0.mk (Kd.R_elder' (xR HO736.out) (Kd.R_base ho0) hb); replace HO738 := Aside0.mk (Kd.R_elder' (xR HO738.out) (Kd.R_base ho0) hb); replace HB := Aside0.mk (below_step (xB HB.out) hb); (try clear hb); (try clear hb2); (try clear hk); (try clear hi); (try clear ho0)) | (refine xG (some 115) Try.func160 #[.slice Ao12 t731.length co12, .slice Ao13 t732.length co13, .int .i64 t733, .int .i64 t734] ?_; (with_reducible refine (spec_UpFilterDown.calls k _ _ t731 _ _ t732 t733 t734 t743 t744 _ ?side1 ?side2 ?side3 ?side4 A7.out).mono ?_); (case side1 => exact xC ((Kd.R_reads' HO736.out).2.2)); (case side2 => exact (Kd.R_reads' HO736.out).2.1); (case side3 => exact xC ((Kd.R_reads' HO738.out).2.2)); (case side4 => exact (Kd.R_reads' HO738.out).2.1); rintro e w15 ⟨v745, rfl, ho0, hb⟩; refine ⟨_, rfl, ?_⟩; have HO746 := Aside0.mk (Kd.R_lower (Kd.R_new' (Kd.R_new' (Kd.R_new' ho0 (Kd.R_lt (xR HO736.out))) (Kd.R_lt (xR HO738.out))) (Kd.R_lt (xR HO742.out))) (below_size (xB HB.out))); replace HO736 := Aside0.mk (Kd.R_elder' (xR HO736.out) (Kd.R_base ho0) hb); replace HO738 := Aside0.mk (Kd.R_elder' (xR HO738.out) (Kd.R_base ho0) hb); replace HO742 := Aside0.mk (Kd.R_elder' (xR HO742.out) (Kd.R_base ho0) hb); replace HB := Aside0.mk (below_step (xB HB.out) hb); (try clear hb); (try clear hb2); (try clear hk); (try clear hi); (try clear ho0)) | (refine xG (some 123) Try.func161 #[.slice Ao12 t731.length co12, .slice Ao13 t732.length co13, .int .i64 t733, .int .i64 t734] ?_; (with_reducible refine (impl_ByPhases.calls k _ _ t731 _ _ t732 t733 t734 t747 t748 _ ?side1 ?side2 ?side3 ?side4 A8.out).mono ?_); (case side1 => exact xC ((Kd.R_reads' HO736.out).2.2)); (case side2 => exact (Kd.R_reads' HO736.out).2.1); (case side3 => exact xC ((Kd.R_reads' HO738.out).2.2)); (case side4 => exact (Kd.R_reads' HO738.out).2.1); rintro e w16 ⟨v749, rfl, ho0, hb⟩; refine ⟨_, rfl, ?_⟩; have HO750 := Aside0.mk (Kd.R_lower (Kd.R_new' (Kd.R_new' (Kd.R_new' (Kd.R_new' ho0 (Kd.R_lt (xR HO736.out))) (Kd.R_lt (xR HO738.out))) (Kd.R_lt (xR HO742.out))) (Kd.R_lt (xR HO746.out))) (below_size (xB HB.out))); replace HO736 := Aside0.mk (Kd.R_elder' (xR HO736.out) (Kd.R_base ho0) hb); replace HO738 := Aside0.mk (Kd.R_elder' (xR HO738.out) (Kd.R_base ho0) hb); replace HO742 := Aside0.mk (Kd.R_elder' (xR HO742.out) (Kd.R_base ho0) hb); replace HO746 := Aside0.mk (Kd.R_elder' (xR HO746.out) (Kd.R_base ho0) hb); replace HB := Aside0.mk (below_step (xB HB.out) hb); (try clear hb); (try clear hb2); (try clear hk); (try clear hi); (try clear ho0)) | (refine xG (some 131) Try.func162 #[.slice Ao12 t731.length co12, .slice Ao13 t732.length co13, .int .i64 t733, .int .i64 t734] ?_; (with_reducible refine (spec_ByPhases.calls k _ _ t731 _ _ t732 t733 t734 t751 t752 _ ?side1 ?side2 ?side3 ?side4 A9.out).mono ?_); (case side1 => exact xC ((Kd.R_reads' HO736.out).2.2)); (case side2 => exact (Kd.R_reads' HO736.out).2.1); (case side3 => exact xC ((Kd.R_reads' HO738.out).2.2)); (case side4 => exact (Kd.R_reads' HO738.out).2.1); rintro e w17 ⟨v753, rfl, ho0, hb⟩; refine ⟨_, rfl, ?_⟩; have HO754 := Aside0.mk (Kd.R_lower (Kd.R_new' (Kd.R_new' (Kd.R_new' (Kd.R_new' (Kd.R_new' ho0 (Kd.R_lt (xR HO736.out))) (Kd.R_lt (xR HO738.out))) (Kd.R_lt (xR HO742.out))) (Kd.R_lt (xR HO746.out))) (Kd.R_lt (xR HO750.out))) (below_size (xB HB.out))); replace HO736 := Aside0.mk (Kd.R_elder' (xR HO736.out) (Kd.R_base ho0) hb); replace HO738 := Aside0.mk (Kd.R_elder' (xR HO738.out) (Kd.R_base ho0) hb); replace HO742 := Aside0.mk (Kd.R_elder' (xR HO742.out) (Kd.R_base ho0) hb); replace HO746 := Aside0.mk (Kd.R_elder' (xR HO746.out) (Kd.R_base ho0) hb); replace HO750 := Aside0.mk (Kd.R_elder' (xR HO750.out) (Kd.R_base ho0) hb); replace HB := Aside0.mk (below_step (xB HB.out) hb); (try clear hb); (try clear hb2); (try clear hk); (try clear hi); (try clear ho0)))
 (try simp only [Act.put, List.setIfInBounds_toArray, List.set_cons_zero, List.set_cons_succ])
 go_cut [164] from 92 to 133 (fun v164 wc => ∃ (kq : Nat) (x164_9 : Bool), v164 = .bool x164_9 ∧ Aside0 (laws_FnPhasesWork.j0 kq l1 t731 t732 t733 t734 t739 t740 x164_9 = some r) ∧ Aside0 (kq ≤ k) ∧ Aside0 (Kd.R (Kd.int .i64) 3 wc w.heap.size (fun k_ => some k_ ≠ ((.slice Ao13 t732.length co13) : Value).ownBlock ∧ some k_ ≠ (v741 : Value).ownBlock) (.slice Ao12 t731.length co12) t731) ∧ Aside0 (Kd.R (Kd.int .i64) 3 wc w.heap.size (fun k_ => some k_ ≠ ((.slice Ao12 t731.length co12) : Value).ownBlock ∧ some k_ ≠ (v741 : Value).ownBlock) (.slice Ao13 t732.length co13) t732) ∧ Aside0 (Kd.R (Kd.int .i64) 3 wc w.heap.size (fun k_ => some k_ ≠ ((.slice Ao12 t731.length co12) : Value).ownBlock ∧ some k_ ≠ ((.slice Ao13 t732.length co13) : Value).ownBlock) v741 t739) ∧ Aside0 (Below w.heap.size w wc))
 case first => as_aux_lemma =>
  have H := HC10.out
  clear HC10
  by_cases c18 : (t740 != t744) = true
  ·rw [if_pos c18] at H; exact absurd H (by have hr_ := HRT.out; cases k <;> simp [laws_FnPhasesWork.j0, hr_])
  rw [if_neg c18] at H
  have c18b0 : (t740 != t744) = false := by simpa using c18
  (try (have c18b1 : decide (t740 = t744) = true := by simpa using c18))
  (try (have c18b2 : (t740 == t744) = true := by simpa using c18))
  clear c18
  (first | rw [c18b0] | (simp only [i64_w, i32_w]; rw [c18b0]) | skip)
  obtain ⟨t755, A19, H⟩ := xO H
  (try dsimp only at H)
  by_cases c20 : t755 = true
  rotate_left
  ·replace c20 := Bool.eq_false_iff.mpr c20; subst c20; exact absurd H (by have hr_ := HRT.out; cases k <;> simp [laws_FnPhasesWork.j0, hr_])
  subst c20
  rw [if_pos rfl] at H
  by_cases c21 : (t748 != t752) = true
  ·rw [if_pos c21] at H; exact absurd H (by have hr_ := HRT.out; cases k <;> simp [laws_FnPhasesWork.j0, hr_])
  as_aux_lemma =>
   rw [if_neg c21] at H
   have c21b0 : (t748 != t752) = false := by simpa using c21
   (try (have c21b1 : decide (t748 = t752) = true := by simpa using c21))
   (try (have c21b2 : (t748 == t752) = true := by simpa using c21))
   clear c21
   obtain ⟨t756, A22, H⟩ := xO H
   (try dsimp only at H)
   by_cases c23 : t756 = true
   rotate_left
   ·replace c23 := Bool.eq_false_iff.mpr c23; subst c23; exact absurd H (by have hr_ := HRT.out; cases k <;> simp [laws_FnPhasesWork.j0, hr_])
   subst c23
   rw [if_pos rfl] at H
   by_cases c24 : (t748 != t740) = true
   ·rw [if_pos c24] at H; exact absurd H (by have hr_ := HRT.out; cases k <;> simp [laws_FnPhasesWork.j0, hr_])
   rw [if_neg c24] at H
   have c24b0 : (t748 != t740) = false := by simpa using c24
   (try (have c24b1 : decide (t748 = t740) = true := by simpa using c24))
   (try (have c24b2 : (t748 == t740) = true := by simpa using c24))
   clear c24
   obtain ⟨t757, A25, H⟩ := xO H
   (try dsimp only at H)
   have H' := Aside0.mk H
   clear H
   obtain ⟨Ao26, co26, eo26⟩ := Kd.R_slice HO742.out
   subst eo26
   obtain ⟨Ao27, co27, eo27⟩ := Kd.R_slice HO746.out
   subst eo27
   go_wp2_with (first | (go_at_call 21; (with_reducible refine (laws_iSame.calls k _ _ t739 _ _ t743 true _ ?side1 ?side2 ?side3 ?side4 A19.out).mono ?_); (case side1 => exact xC ((Kd.R_reads' HO742.out).2.2)); (case side2 => exact (Kd.R_reads' HO742.out).2.1); (case side3 => exact xC ((Kd.R_reads' HO746.out).2.2)); (case side4 => exact (Kd.R_reads' HO746.out).2.1); rintro e w' ⟨rfl, ⟨nd, rfl⟩⟩; obtain ⟨Ao28, co28, eo28⟩ := Kd.R_slice HO750.out; subst eo28; obtain ⟨Ao29, co29, eo29⟩ := Kd.R_slice HO754.out; subst eo29) | (go_at_call 21; (with_reducible refine (laws_iSame.calls k _ _ t747 _ _ t751 true _ ?side1 ?side2 ?side3 ?side4 A22.out).mono ?_); (case side1 => exact xC ((Kd.R_reads' HO750.out).2.2)); (case side2 => exact (Kd.R_reads' HO750.out).2.1); (case side3 => exact xC ((Kd.R_reads' HO754.out).2.2)); (case side4 => exact (Kd.R_reads' HO754.out).2.1); rintro e w' ⟨rfl, ⟨nd, rfl⟩⟩) | (go_at_call 21; (with_reducible refine (laws_iSame.calls k _ _ t739 _ _ t747 t757 _ ?side1 ?side2 ?side3 ?side4 A25.out).mono ?_); (case side1 => exact xC ((Kd.R_reads' HO742.out).2.2)); (case side2 => exact (Kd.R_reads' HO742.out).2.1); (case side3 => exact xC ((Kd.R_reads' HO750.out).2.2)); (case side4 => exact (Kd.R_reads' HO750.out).2.1); rintro e w' ⟨rfl, ⟨nd, rfl⟩⟩))
   go_meet
   case rel => exact ⟨_, (!t757), (by first | rfl | (simp; done) | (simp [*]; done)), H', ⟨by first | omega | exact Nat.le_refl _⟩, ⟨by (with_reducible repeat (first | apply Kd.R_alloc | apply Kd.R_drewN | apply Kd.R_drew)); exact Kd.R_mono HO736.out (fun _ hk => ⟨hk.1.1.1.1, hk.1.1.1.2⟩)⟩, ⟨by (with_reducible repeat (first | apply Kd.R_alloc | apply Kd.R_drewN | apply Kd.R_drew)); exact Kd.R_mono HO738.out (fun _ hk => ⟨hk.1.1.1.1, hk.1.1.1.2⟩)⟩, ⟨by (with_reducible repeat (first | apply Kd.R_alloc | apply Kd.R_drewN | apply Kd.R_drew)); exact Kd.R_mono HO742.out (fun _ hk => ⟨hk.1.1.1.1.2, hk.1.1.1.2⟩)⟩, ⟨xB HB.out⟩⟩
 case rest => as_aux_lemma =>
  clear HC10
  try clear c1
  try clear c4
  obtain ⟨kq, x164_9, rfl, HA, HJ9, HO_5, HO_6, HO_9, HB⟩ := hcut
  cases kq with
  | zero => exact absurd HA.out (by simp [laws_FnPhasesWork.j0])
  | succ kj9 =>
   have H := HA.out
   clear HA
   simp only [laws_FnPhasesWork.j0] at H
   by_cases c30 : x164_9 = true
   ·as_aux_lemma =>
     subst c30
     rw [if_pos rfl] at H
     exact absurd ((Option.some.inj H).trans HRT.out) (by decide)
   replace c30 := Bool.eq_false_iff.mpr c30
   subst c30
   rw [if_neg (show ¬ (false = true) by decide)] at H
   have HC31 := Aside0.mk H
   clear H
   go_upto_if 165 with (fail)
   go_cut [] from 134 to 165 (fun wc => ∃ (kq : Nat), Aside0 (laws_FnPhasesWork.j4 kq l1 = some r) ∧ Aside0 (kq ≤ kj9) ∧ Aside0 (Below w.heap.size w wc))
   case first => as_aux_lemma =>
    have H := HC31.out
    clear HC31
    by_cases c32 : t740 = true
    rotate_left
    ·as_aux_lemma =>
      replace c32 := Bool.eq_false_iff.mpr c32
      subst c32
      rw [if_neg (show ¬ (false = true) by decide)] at H
      have H' := Aside0.mk H
      clear H
      go_wp2
      go_meet
      case rel => exact ⟨_, H', ⟨by have := HJ9.out; first | omega | exact Nat.le_refl _⟩, ⟨xB HB.out⟩⟩
    subst c32
    rw [if_pos rfl] at H
    replace H := Option.bind_eq_some_iff.mp H
    obtain ⟨⟨t758, t759⟩, A330, H⟩ := H
    (try dsimp only at H)
    have A33 := Aside0.mk A330
    clear A330
    replace H := Option.bind_eq_some_iff.mp H
    obtain ⟨⟨t760, t761⟩, A340, H⟩ := H
    (try dsimp only at H)
    have A34 := Aside0.mk A340
    clear A340
    replace H := Option.bind_eq_some_iff.mp H
    obtain ⟨⟨t762, t763⟩, A350, H⟩ := H
    (try dsimp only at H)
    have A35 := Aside0.mk A350
    clear A350
    have HC36 := Aside0.mk H
    clear H
    go_upto_region 14 with (first | (refine xG (some 171) Try.func22 #[.int .i64 (t732.length : Int), .int .i64 t733, .int .i64 t734] ?_; (with_reducible refine (impl_LengthAfter.calls (t732.length : Int) t733 t734 t758 t759 _ A33.out).mono ?_); rintro e w' ⟨rfl, ⟨nd, rfl⟩⟩; refine ⟨_, rfl, ?_⟩) | (refine xG (some 180) Try.func163 #[.slice Ao12 t731.length co12, .int .i64 (t732.length : Int), .int .i64 t733, .int .i64 t734] ?_; (with_reducible refine (impl_ProductsDirect.calls kj9 _ _ t731 (t732.length : Int) t733 t734 t760 t761 _ ?side1 ?side2 A34.out).mono ?_); (case side1 => exact xC ((Kd.R_reads' HO_5.out).2.2)); (case side2 => exact (Kd.R_reads' HO_5.out).2.1); rintro e w37 ⟨rfl, hb⟩; refine ⟨_, rfl, ?_⟩; replace HO_5 := Aside0.mk (Kd.R_below (xR HO_5.out) hb); replace HO_6 := Aside0.mk (Kd.R_below (xR HO_6.out) hb); replace HO_9 := Aside0.mk (Kd.R_below (xR HO_9.out) hb); replace HB := Aside0.mk (below_step (xB HB.out) hb); (try clear hb); (try clear hb2); (try clear hk); (try clear hi)) | (refine xG (some 189) Try.func164 #[.slice Ao12 t731.length co12, .int .i64 (t732.length : Int), .int .i64 t733, .int .i64 t734] ?_; (with_reducible refine (impl_ProductsByPhases.calls kj9 _ _ t731 (t732.length : Int) t733 t734 t762 t763 _ ?side1 ?side2 A35.out).mono ?_); (case side1 => exact xC ((Kd.R_reads' HO_5.out).2.2)); (case side2 => exact (Kd.R_reads' HO_5.out).2.1); rintro e w38 ⟨rfl, hb⟩; refine ⟨_, rfl, ?_⟩; replace HO_5 := Aside0.mk (Kd.R_below (xR HO_5.out) hb); replace HO_6 := Aside0.mk (Kd.R_below (xR HO_6.out) hb); replace HO_9 := Aside0.mk (Kd.R_below (xR HO_9.out) hb); replace HB := Aside0.mk (below_step (xB HB.out) hb); (try clear hb); (try clear hb2); (try clear hk); (try clear hi)))
    (try simp only [Act.put, List.setIfInBounds_toArray, List.set_cons_zero, List.set_cons_succ])
    go_cut [212] from 166 to 191 (fun v212 wc => ∃ (kq : Nat) (x212_35 : Bool), v212 = .bool x212_35 ∧ Aside0 (laws_FnPhasesWork.j1 kq l1 t731 t732 t733 t734 t739 x212_35 = some r) ∧ Aside0 (kq ≤ kj9) ∧ Aside0 (Kd.R (Kd.int .i64) 3 wc w.heap.size (fun k_ => some k_ ≠ ((.slice Ao13 t732.length co13) : Value).ownBlock ∧ some k_ ≠ (v741 : Value).ownBlock) (.slice Ao12 t731.length co12) t731) ∧ Aside0 (Kd.R (Kd.int .i64) 3 wc w.heap.size (fun k_ => some k_ ≠ ((.slice Ao12 t731.length co12) : Value).ownBlock ∧ some k_ ≠ (v741 : Value).ownBlock) (.slice Ao13 t732.length co13) t732) ∧ Aside0 (Kd.R (Kd.int .i64) 3 wc w.heap.size (fun k_ => some k_ ≠ ((.slice Ao12 t731.length co12) : Value).ownBlock ∧ some k_ ≠ ((.slice Ao13 t732.length co13) : Value).ownBlock) v741 t739) ∧ Aside0 (Below w.heap.size w wc))
    case first => as_aux_lemma =>
     have H := HC36.out
     clear HC36
     by_cases c39 : t759 = true
     rotate_left
     ·replace c39 := Bool.eq_false_iff.mpr c39; subst c39; exact absurd H (by have hr_ := HRT.out; cases kj9 <;> simp [laws_FnPhasesWork.j1, hr_])
     as_aux_lemma =>
      subst c39
      rw [if_pos rfl] at H
      by_cases c40 : (t739.length : Int) = t758
      rotate_left
      ·rw [if_neg c40] at H; exact absurd H (by have hr_ := HRT.out; cases kj9 <;> simp [laws_FnPhasesWork.j1, hr_])
      rw [if_pos c40] at H
      have c40b0 : ((t739.length : Int) == t758) = true := beq_iff_eq.mpr c40
      have c40b1 : ((t739.length : Int) != t758) = false := bne_eq_false_iff_eq.mpr c40
      clear c40
      (first | rw [c40b0] | (simp only [i64_w, i32_w]; rw [c40b0]) | skip)
      by_cases c41 : t761 = true
      rotate_left
      ·replace c41 := Bool.eq_false_iff.mpr c41; subst c41; exact absurd H (by have hr_ := HRT.out; cases kj9 <;> simp [laws_FnPhasesWork.j1, hr_])
      subst c41
      rw [if_pos rfl] at H
      by_cases c42 : t763 = true
      rotate_left
      ·replace c42 := Bool.eq_false_iff.mpr c42; subst c42; exact absurd H (by have hr_ := HRT.out; cases kj9 <;> simp [laws_FnPhasesWork.j1, hr_])
      subst c42
      rw [if_pos rfl] at H
      have H' := Aside0.mk H
      clear H
      obtain ⟨Ao43, co43, eo43⟩ := Kd.R_slice HO_9.out
      subst eo43
      go_wp2
      go_meet
      case rel => exact ⟨_, (decide (t762 > t760)), (by first | rfl | (simp; done) | (simp [*]; done)), H', ⟨by have := HJ9.out; first | omega | exact Nat.le_refl _⟩, ⟨xR HO_5.out⟩, ⟨xR HO_6.out⟩, ⟨xR HO_9.out⟩, ⟨xB HB.out⟩⟩
    case rest => as_aux_lemma =>
     clear HC36
     try clear c30
     try clear c32
     obtain ⟨kq, x212_35, rfl, HA, HJ35, HO_5, HO_6, HO_9, HB⟩ := hcut
     cases kq with
     | zero => exact absurd HA.out (by simp [laws_FnPhasesWork.j1])
     | succ kj35 =>
      have H := HA.out
      clear HA
      simp only [laws_FnPhasesWork.j1] at H
      by_cases c44 : x212_35 = true
      ·as_aux_lemma =>
        subst c44
        rw [if_pos rfl] at H
        exact absurd ((Option.some.inj H).trans HRT.out) (by decide)
      replace c44 := Bool.eq_false_iff.mpr c44
      subst c44
      rw [if_neg (show ¬ (false = true) by decide)] at H
      replace H := Option.bind_eq_some_iff.mp H
      obtain ⟨⟨t764, t765⟩, A450, H⟩ := H
      (try dsimp only at H)
      have A45 := Aside0.mk A450
      clear A450
      have HC46 := Aside0.mk H
      clear H
      go_upto_if 220 with (first | (refine xG (some 217) Try.func165 #[.slice Ao12 t731.length co12, .slice Ao13 t732.length co13, .int .i64 t733] ?_; (with_reducible refine (impl_UpFilter.calls kj35 _ _ t731 _ _ t732 t733 t764 t765 _ ?side1 ?side2 ?side3 ?side4 A45.out).mono ?_); (case side1 => exact xC ((Kd.R_reads' HO_5.out).2.2)); (case side2 => exact (Kd.R_reads' HO_5.out).2.1); (case side3 => exact xC ((Kd.R_reads' HO_6.out).2.2)); (case side4 => exact (Kd.R_reads' HO_6.out).2.1); rintro e w47 ⟨v766, rfl, ho0, hb⟩; refine ⟨_, rfl, ?_⟩; have HO767 := Aside0.mk (Kd.R_lower (Kd.R_new' (Kd.R_new' (Kd.R_new' ho0 (Kd.R_lt (xR HO_5.out))) (Kd.R_lt (xR HO_6.out))) (Kd.R_lt (xR HO_9.out))) (below_size (xB HB.out))); replace HO_5 := Aside0.mk (Kd.R_elder' (xR HO_5.out) (Kd.R_base ho0) hb); replace HO_6 := Aside0.mk (Kd.R_elder' (xR HO_6.out) (Kd.R_base ho0) hb); replace HO_9 := Aside0.mk (Kd.R_elder' (xR HO_9.out) (Kd.R_base ho0) hb); replace HB := Aside0.mk (below_step (xB HB.out) hb); (try clear hb); (try clear hb2); (try clear hk); (try clear hi); (try clear ho0)))
      (try simp only [Act.put, List.setIfInBounds_toArray, List.set_cons_zero, List.set_cons_succ])
      go_cut [] from 192 to 220 (fun wc => ∃ (kq : Nat), Aside0 (laws_FnPhasesWork.j2 kq l1 t731 t732 t733 t734 t739 = some r) ∧ Aside0 (kq ≤ kj35) ∧ Aside0 (Kd.R (Kd.int .i64) 3 wc w.heap.size (fun k_ => some k_ ≠ ((.slice Ao13 t732.length co13) : Value).ownBlock ∧ some k_ ≠ (v741 : Value).ownBlock) (.slice Ao12 t731.length co12) t731) ∧ Aside0 (Kd.R (Kd.int .i64) 3 wc w.heap.size (fun k_ => some k_ ≠ ((.slice Ao12 t731.length co12) : Value).ownBlock ∧ some k_ ≠ (v741 : Value).ownBlock) (.slice Ao13 t732.length co13) t732) ∧ Aside0 (Kd.R (Kd.int .i64) 3 wc w.heap.size (fun k_ => some k_ ≠ ((.slice Ao12 t731.length co12) : Value).ownBlock ∧ some k_ ≠ ((.slice Ao13 t732.length co13) : Value).ownBlock) v741 t739) ∧ Aside0 (Below w.heap.size w wc))
      case first => as_aux_lemma =>
       have H := HC46.out
       clear HC46
       by_cases c48 : t765 = true
       rotate_left
       ·as_aux_lemma =>
         replace c48 := Bool.eq_false_iff.mpr c48
         subst c48
         rw [if_neg (show ¬ (false = true) by decide)] at H
         have H' := Aside0.mk H
         clear H
         go_wp2
         go_meet
         case rel => exact ⟨_, H', ⟨by have := HJ9.out; have := HJ35.out; first | omega | exact Nat.le_refl _⟩, ⟨by (with_reducible repeat (first | apply Kd.R_alloc | apply Kd.R_drewN | apply Kd.R_drew)); exact Kd.R_mono HO_5.out (fun _ hk => ⟨hk.1.1, hk.1.2⟩)⟩, ⟨by (with_reducible repeat (first | apply Kd.R_alloc | apply Kd.R_drewN | apply Kd.R_drew)); exact Kd.R_mono HO_6.out (fun _ hk => ⟨hk.1.1, hk.1.2⟩)⟩, ⟨by (with_reducible repeat (first | apply Kd.R_alloc | apply Kd.R_drewN | apply Kd.R_drew)); exact Kd.R_mono HO_9.out (fun _ hk => ⟨hk.1.1, hk.1.2⟩)⟩, ⟨xB HB.out⟩⟩
       as_aux_lemma =>
        subst c48
        rw [if_pos rfl] at H
        replace H := Option.bind_eq_some_iff.mp H
        obtain ⟨⟨t768, t769⟩, A490, H⟩ := H
        (try dsimp only at H)
        have A49 := Aside0.mk A490
        clear A490
        by_cases c50 : t769 = true
        rotate_left
        ·replace c50 := Bool.eq_false_iff.mpr c50
         subst c50
         rw [if_neg (show ¬ (false = true) by decide)] at H
         exact absurd ((Option.some.inj H).trans HRT.out) (by decide)
        subst c50
        rw [if_pos rfl] at H
        obtain ⟨t772, A51, H⟩ := xO H
        (try dsimp only at H)
        by_cases c52 : t772 = true
        rotate_left
        ·replace c52 := Bool.eq_false_iff.mpr c52
         subst c52
         rw [if_neg (show ¬ (false = true) by decide)] at H
         exact absurd ((Option.some.inj H).trans HRT.out) (by decide)
        subst c52
        rw [if_pos rfl] at H
        have H' := Aside0.mk H
        clear H
        obtain ⟨Ao53, co53, eo53⟩ := Kd.R_slice HO767.out
        subst eo53
        go_wp2_with (first | (refine xG (some 224) Try.func166 #[.slice Ao53 t764.length co53, .int .i64 t734, .int .i64 0] ?_; (with_reducible refine (impl_DropSamples.calls kj35 _ _ t764 t734 0 t768 true _ ?side1 ?side2 A49.out).mono ?_); (case side1 => exact xC ((Kd.R_reads' HO767.out).2.2)); (case side2 => exact (Kd.R_reads' HO767.out).2.1); rintro e w54 ⟨v770, rfl, ho0, hb⟩; refine ⟨_, rfl, ?_⟩; have HO771 := Aside0.mk (Kd.R_lower (Kd.R_new' (Kd.R_new' (Kd.R_new' (Kd.R_new' ho0 (Kd.R_lt (xR HO_5.out))) (Kd.R_lt (xR HO_6.out))) (Kd.R_lt (xR HO_9.out))) (Kd.R_lt (xR HO767.out))) (below_size (xB HB.out))); replace HO_5 := Aside0.mk (Kd.R_elder' (xR HO_5.out) (Kd.R_base ho0) hb); replace HO_6 := Aside0.mk (Kd.R_elder' (xR HO_6.out) (Kd.R_base ho0) hb); replace HO_9 := Aside0.mk (Kd.R_elder' (xR HO_9.out) (Kd.R_base ho0) hb); replace HO767 := Aside0.mk (Kd.R_elder' (xR HO767.out) (Kd.R_base ho0) hb); replace HB := Aside0.mk (below_step (xB HB.out) hb); (try clear hb); (try clear hb2); (try clear hk); (try clear hi); (try clear ho0); obtain ⟨Ao55, co55, eo55⟩ := Kd.R_slice HO771.out; subst eo55; obtain ⟨Ao56, co56, eo56⟩ := Kd.R_slice HO_9.out; subst eo56) | (go_at_call 21; (with_reducible refine (laws_iSame.calls kj35 _ _ t768 _ _ t739 true _ ?side1 ?side2 ?side3 ?side4 A51.out).mono ?_); (case side1 => exact xC ((Kd.R_reads' HO771.out).2.2)); (case side2 => exact (Kd.R_reads' HO771.out).2.1); (case side3 => exact xC ((Kd.R_reads' HO_9.out).2.2)); (case side4 => exact (Kd.R_reads' HO_9.out).2.1); rintro e w' ⟨rfl, ⟨nd, rfl⟩⟩))
        go_meet
        case rel => exact ⟨_, H', ⟨by have := HJ9.out; have := HJ35.out; first | omega | exact Nat.le_refl _⟩, ⟨by (with_reducible repeat (first | apply Kd.R_alloc | apply Kd.R_drewN | apply Kd.R_drew)); exact Kd.R_mono HO_5.out (fun _ hk => ⟨hk.1.1.1, hk.1.1.2⟩)⟩, ⟨by (with_reducible repeat (first | apply Kd.R_alloc | apply Kd.R_drewN | apply Kd.R_drew)); exact Kd.R_mono HO_6.out (fun _ hk => ⟨hk.1.1.1, hk.1.1.2⟩)⟩, ⟨by (with_reducible repeat (first | apply Kd.R_alloc | apply Kd.R_drewN | apply Kd.R_drew)); exact Kd.R_mono HO_9.out (fun _ hk => ⟨hk.1.1.1, hk.1.1.2⟩)⟩, ⟨xB HB.out⟩⟩
      case rest => as_aux_lemma =>
       clear HC46
       try clear c44
       obtain ⟨kq, HA, HJ45, HO_5, HO_6, HO_9, HB⟩ := hcut
       cases kq with
       | zero => exact absurd HA.out (by simp [laws_FnPhasesWork.j2])
       | succ kj45 =>
        have H := HA.out
        clear HA
        simp only [laws_FnPhasesWork.j2] at H
        by_cases c57 : t733 = 1
        rotate_left
        ·as_aux_lemma =>
          rw [if_neg c57] at H
          have c57b0 : (t733 == 1) = false := beq_eq_false_iff_ne.mpr c57
          have c57b1 : (t733 != 1) = true := bne_iff_ne.mpr c57
          have H' := Aside0.mk H
          clear H
          go_wp2
          go_meet
          case rel => exact ⟨_, H', ⟨by have := HJ9.out; have := HJ35.out; have := HJ45.out; first | omega | exact Nat.le_refl _⟩, ⟨xB HB.out⟩⟩
        rw [if_pos c57] at H
        have c57b0 : (t733 == 1) = true := beq_iff_eq.mpr c57
        have c57b1 : (t733 != 1) = false := bne_eq_false_iff_eq.mpr c57
        clear c57
        replace H := Option.bind_eq_some_iff.mp H
        obtain ⟨⟨t773, t774⟩, A580, H⟩ := H
        (try dsimp only at H)
        have A58 := Aside0.mk A580
        clear A580
        replace H := Option.bind_eq_some_iff.mp H
        obtain ⟨⟨t777, t778⟩, A590, H⟩ := H
        (try dsimp only at H)
        have A59 := Aside0.mk A590
        clear A590
        have HC60 := Aside0.mk H
        clear H
        go_upto_region 24 with (first | (refine xG (some 241) Try.func167 #[.slice Ao12 t731.length co12, .slice Ao13 t732.length co13, .int .i64 t734] ?_; (with_reducible refine (impl_DownFilter.calls kj45 _ _ t731 _ _ t732 t734 t773 t774 _ ?side1 ?side2 ?side3 ?side4 A58.out).mono ?_); (case side1 => exact xC ((Kd.R_reads' HO_5.out).2.2)); (case side2 => exact (Kd.R_reads' HO_5.out).2.1); (case side3 => exact xC ((Kd.R_reads' HO_6.out).2.2)); (case side4 => exact (Kd.R_reads' HO_6.out).2.1); rintro e w61 ⟨v775, rfl, ho0, hb⟩; refine ⟨_, rfl, ?_⟩; have HO776 := Aside0.mk (Kd.R_lower (Kd.R_new' (Kd.R_new' (Kd.R_new' ho0 (Kd.R_lt (xR HO_5.out))) (Kd.R_lt (xR HO_6.out))) (Kd.R_lt (xR HO_9.out))) (below_size (xB HB.out))); replace HO_5 := Aside0.mk (Kd.R_elder' (xR HO_5.out) (Kd.R_base ho0) hb); replace HO_6 := Aside0.mk (Kd.R_elder' (xR HO_6.out) (Kd.R_base ho0) hb); replace HO_9 := Aside0.mk (Kd.R_elder' (xR HO_9.out) (Kd.R_base ho0) hb); replace HB := Aside0.mk (below_step (xB HB.out) hb); (try clear hb); (try clear hb2); (try clear hk); (try clear hi); (try clear ho0)) | (refine xG (some 247) Try.func59 #[.slice Ao12 t731.length co12, .slice Ao13 t732.length co13] ?_; (with_reducible refine (impl_FilterShort.calls kj45 _ _ t731 _ _ t732 t777 t778 _ ?side1 ?side2 ?side3 ?side4 A59.out).mono ?_); (case side1 => exact xC ((Kd.R_reads' HO_5.out).2.2)); (case side2 => exact (Kd.R_reads' HO_5.out).2.1); (case side3 => exact xC ((Kd.R_reads' HO_6.out).2.2)); (case side4 => exact (Kd.R_reads' HO_6.out).2.1); rintro e w62 ⟨v779, rfl, ho0, hb⟩; refine ⟨_, rfl, ?_⟩; have HO780 := Aside0.mk (Kd.R_lower (Kd.R_new' (Kd.R_new' (Kd.R_new' (Kd.R_new' ho0 (Kd.R_lt (xR HO_5.out))) (Kd.R_lt (xR HO_6.out))) (Kd.R_lt (xR HO_9.out))) (Kd.R_lt (xR HO776.out))) (below_size (xB HB.out))); replace HO_5 := Aside0.mk (Kd.R_elder' (xR HO_5.out) (Kd.R_base ho0) hb); replace HO_6 := Aside0.mk (Kd.R_elder' (xR HO_6.out) (Kd.R_base ho0) hb); replace HO_9 := Aside0.mk (Kd.R_elder' (xR HO_9.out) (Kd.R_base ho0) hb); replace HO776 := Aside0.mk (Kd.R_elder' (xR HO776.out) (Kd.R_base ho0) hb); replace HB := Aside0.mk (below_step (xB HB.out) hb); (try clear hb); (try clear hb2); (try clear hk); (try clear hi); (try clear ho0)))
        (try simp only [Act.put, List.setIfInBounds_toArray, List.set_cons_zero, List.set_cons_succ])
        go_cut [257] from 221 to 249 (fun v257 wc => ∃ (kq : Nat) (x257_59 : Bool), v257 = .bool x257_59 ∧ Aside0 (laws_FnPhasesWork.j3 kq l1 t734 t773 t777 t778 x257_59 = some r) ∧ Aside0 (kq ≤ kj45) ∧ Aside0 (Kd.R (Kd.int .i64) 3 wc w.heap.size (fun k_ => some k_ ≠ (v779 : Value).ownBlock) v775 t773) ∧ Aside0 (Kd.R (Kd.int .i64) 3 wc w.heap.size (fun k_ => some k_ ≠ (v775 : Value).ownBlock) v779 t777) ∧ Aside0 (Below w.heap.size w wc))
        case first => as_aux_lemma =>
         have H := HC60.out
         clear HC60
         by_cases c63 : t774 = true
         rotate_left
         ·replace c63 := Bool.eq_false_iff.mpr c63; subst c63; exact absurd H (by have hr_ := HRT.out; cases kj45 <;> simp [laws_FnPhasesWork.j3, hr_])
         as_aux_lemma =>
          subst c63
          rw [if_pos rfl] at H
          obtain ⟨t781, A64, H⟩ := xO H
          (try dsimp only at H)
          have H' := Aside0.mk H
          clear H
          obtain ⟨Ao65, co65, eo65⟩ := Kd.R_slice HO776.out
          subst eo65
          obtain ⟨Ao66, co66, eo66⟩ := Kd.R_slice HO_9.out
          subst eo66
          go_wp2_with (first | (go_at_call 21; (with_reducible refine (laws_iSame.calls kj45 _ _ t773 _ _ t739 t781 _ ?side1 ?side2 ?side3 ?side4 A64.out).mono ?_); (case side1 => exact xC ((Kd.R_reads' HO776.out).2.2)); (case side2 => exact (Kd.R_reads' HO776.out).2.1); (case side3 => exact xC ((Kd.R_reads' HO_9.out).2.2)); (case side4 => exact (Kd.R_reads' HO_9.out).2.1); rintro e w' ⟨rfl, ⟨nd, rfl⟩⟩))
          go_meet
          case rel => exact ⟨_, (!t781), (by first | rfl | (simp; done) | (simp [*]; done)), H', ⟨by have := HJ9.out; have := HJ35.out; have := HJ45.out; first | omega | exact Nat.le_refl _⟩, ⟨by (with_reducible repeat (first | apply Kd.R_alloc | apply Kd.R_drewN | apply Kd.R_drew)); exact Kd.R_mono HO776.out (fun _ hk => hk.2)⟩, ⟨by (with_reducible repeat (first | apply Kd.R_alloc | apply Kd.R_drewN | apply Kd.R_drew)); exact Kd.R_mono HO780.out (fun _ hk => hk.2)⟩, ⟨xB HB.out⟩⟩
        case rest => as_aux_lemma =>
         clear HC60
         try clear c57b0
         try clear c57b1
         obtain ⟨kq, x257_59, rfl, HA, HJ59, HO_27, HO_29, HB⟩ := hcut
         cases kq with
         | zero => exact absurd HA.out (by simp [laws_FnPhasesWork.j3])
         | succ kj59 =>
          have H := HA.out
          clear HA
          simp only [laws_FnPhasesWork.j3] at H
          by_cases c67 : x257_59 = true
          ·as_aux_lemma =>
            subst c67
            rw [if_pos rfl] at H
            exact absurd ((Option.some.inj H).trans HRT.out) (by decide)
          replace c67 := Bool.eq_false_iff.mpr c67
          subst c67
          rw [if_neg (show ¬ (false = true) by decide)] at H
          by_cases c68 : t778 = true
          rotate_left
          ·as_aux_lemma =>
            replace c68 := Bool.eq_false_iff.mpr c68
            subst c68
            rw [if_neg (show ¬ (false = true) by decide)] at H
            have H' := Aside0.mk H
            clear H
            go_wp2
            go_meet
            case rel => exact ⟨_, H', ⟨by have := HJ9.out; have := HJ35.out; have := HJ45.out; have := HJ59.out; first | omega | exact Nat.le_refl _⟩, ⟨xB HB.out⟩⟩
          as_aux_lemma =>
           subst c68
           rw [if_pos rfl] at H
           replace H := Option.bind_eq_some_iff.mp H
           obtain ⟨⟨t782, t783⟩, A690, H⟩ := H
           (try dsimp only at H)
           have A69 := Aside0.mk A690
           clear A690
           by_cases c70 : t783 = true
           rotate_left
           ·replace c70 := Bool.eq_false_iff.mpr c70
            subst c70
            rw [if_neg (show ¬ (false = true) by decide)] at H
            exact absurd ((Option.some.inj H).trans HRT.out) (by decide)
           subst c70
           rw [if_pos rfl] at H
           obtain ⟨t786, A71, H⟩ := xO H
           (try dsimp only at H)
           by_cases c72 : t786 = true
           rotate_left
           ·replace c72 := Bool.eq_false_iff.mpr c72
            subst c72
            rw [if_neg (show ¬ (false = true) by decide)] at H
            exact absurd ((Option.some.inj H).trans HRT.out) (by decide)
           subst c72
           rw [if_pos rfl] at H
           have H' := Aside0.mk H
           clear H
           obtain ⟨Ao73, co73, eo73⟩ := Kd.R_slice HO_29.out
           subst eo73
           go_wp2_with (first | (refine xG (some 262) Try.func166 #[.slice Ao73 t777.length co73, .int .i64 t734, .int .i64 0] ?_; (with_reducible refine (impl_DropSamples.calls kj59 _ _ t777 t734 0 t782 true _ ?side1 ?side2 A69.out).mono ?_); (case side1 => exact xC ((Kd.R_reads' HO_29.out).2.2)); (case side2 => exact (Kd.R_reads' HO_29.out).2.1); rintro e w74 ⟨v784, rfl, ho0, hb⟩; refine ⟨_, rfl, ?_⟩; have HO785 := Aside0.mk (Kd.R_lower (Kd.R_new' (Kd.R_new' ho0 (Kd.R_lt (xR HO_27.out))) (Kd.R_lt (xR HO_29.out))) (below_size (xB HB.out))); replace HO_27 := Aside0.mk (Kd.R_elder' (xR HO_27.out) (Kd.R_base ho0) hb); replace HO_29 := Aside0.mk (Kd.R_elder' (xR HO_29.out) (Kd.R_base ho0) hb); replace HB := Aside0.mk (below_step (xB HB.out) hb); (try clear hb); (try clear hb2); (try clear hk); (try clear hi); (try clear ho0); obtain ⟨Ao75, co75, eo75⟩ := Kd.R_slice HO785.out; subst eo75; obtain ⟨Ao76, co76, eo76⟩ := Kd.R_slice HO_27.out; subst eo76) | (go_at_call 21; (with_reducible refine (laws_iSame.calls kj59 _ _ t782 _ _ t773 true _ ?side1 ?side2 ?side3 ?side4 A71.out).mono ?_); (case side1 => exact xC ((Kd.R_reads' HO785.out).2.2)); (case side2 => exact (Kd.R_reads' HO785.out).2.1); (case side3 => exact xC ((Kd.R_reads' HO_27.out).2.2)); (case side4 => exact (Kd.R_reads' HO_27.out).2.1); rintro e w' ⟨rfl, ⟨nd, rfl⟩⟩))
           go_meet
           case rel => exact ⟨_, H', ⟨by have := HJ9.out; have := HJ35.out; have := HJ45.out; have := HJ59.out; first | omega | exact Nat.le_refl _⟩, ⟨xB HB.out⟩⟩
   case rest => as_aux_lemma =>
    clear HC31
    try clear c30
    obtain ⟨kq, HA, HJ30, HB⟩ := hcut
    cases kq with
    | zero => exact absurd HA.out (by simp [laws_FnPhasesWork.j4])
    | succ kj30 =>
     have H := HA.out
     clear HA
     simp only [laws_FnPhasesWork.j4] at H
     replace H := Option.bind_eq_some_iff.mp H
     obtain ⟨⟨t787, t788⟩, A770, H⟩ := H
     (try dsimp only at H)
     have A77 := Aside0.mk A770
     clear A770
     replace H := Option.bind_eq_some_iff.mp H
     obtain ⟨⟨t791, t792⟩, A780, H⟩ := H
     (try dsimp only at H)
     have A78 := Aside0.mk A780
     clear A780
     replace H := Option.bind_eq_some_iff.mp H
     obtain ⟨⟨t795, t796⟩, A790, H⟩ := H
     (try dsimp only at H)
     have A79 := Aside0.mk A790
     clear A790
     obtain ⟨t799, A80, H⟩ := xO H
     (try dsimp only at H)
     replace H := Option.bind_eq_some_iff.mp H
     obtain ⟨⟨t802, t803⟩, A810, H⟩ := H
     (try dsimp only at H)
     have A81 := Aside0.mk A810
     clear A810
     replace H := Option.bind_eq_some_iff.mp H
     obtain ⟨⟨t806, t807⟩, A820, H⟩ := H
     (try dsimp only at H)
     have A82 := Aside0.mk A820
     clear A820
     have HC83 := Aside0.mk H
     clear H
     go_upto_region 36 with (first | (refine xG (some 275) Try.func168 #[.slice A1 l1.length c1] ?_; (with_reducible refine (spec_DrawPhasesOf.calls kj30 _ _ l1 t787 t788 _ ?side1 ?side2 A77.out).mono ?_); (case side1 => exact xC (Kd.C_below HR1.out HB.out)); (case side2 => exact HC1.out); rintro e w84 ⟨v789, rfl, ho0, hb⟩; refine ⟨_, rfl, ?_⟩; have HO790 := Aside0.mk (Kd.R_lower ho0 (below_size (xB HB.out))); replace HB := Aside0.mk (below_step (xB HB.out) hb); (try clear hb); (try clear hb2); (try clear hk); (try clear hi); (try clear ho0); obtain ⟨Ao85, co85, eo85⟩ := Kd.R_slice HO790.out; subst eo85) | (refine xG (some 281) Try.func169 #[.slice Ao85 t787.length co85, .int .i64 t788] ?_; (with_reducible refine (impl_PhasesOf.calls kj30 _ _ t787 t788 t791 t792 _ ?side1 ?side2 A78.out).mono ?_); (case side1 => exact xC ((Kd.R_reads' HO790.out).2.2)); (case side2 => exact (Kd.R_reads' HO790.out).2.1); rintro e w86 ⟨v793, rfl, ho0, hb⟩; refine ⟨_, rfl, ?_⟩; have HO794 := Aside0.mk (Kd.S_lower (Kd.S_new' ho0 (Kd.R_lt (xR HO790.out))) (below_size (xB HB.out))); replace HO790 := Aside0.mk (Kd.R_below (xR HO790.out) hb); replace HB := Aside0.mk (below_step (xB HB.out) hb); (try clear hb); (try clear hb2); (try clear hk); (try clear hi); (try clear ho0)) | (refine xG (some 287) Try.func170 #[.slice Ao85 t787.length co85, .int .i64 t788] ?_; (with_reducible refine (spec_PhasesOf.calls kj30 _ _ t787 t788 t795 t796 _ ?side1 ?side2 A79.out).mono ?_); (case side1 => exact xC ((Kd.R_reads' HO790.out).2.2)); (case side2 => exact (Kd.R_reads' HO790.out).2.1); rintro e w87 ⟨v797, rfl, ho0, hb⟩; refine ⟨_, rfl, ?_⟩; have HO798 := Aside0.mk (Kd.S_lower (Kd.S_new' (Kd.S_new' ho0 (Kd.R_lt (xR HO790.out))) (Kd.S_lt (xS HO794.out))) (below_size (xB HB.out))); replace HO790 := Aside0.mk (Kd.R_below (xR HO790.out) hb); replace HO794 := Aside0.mk (Kd.S_elder' (xS HO794.out) (Kd.S_base ho0) hb); replace HB := Aside0.mk (below_step (xB HB.out) hb); (try clear hb); (try clear hb2); (try clear hk); (try clear hi); (try clear ho0)) | (refine xG (some 291) Try.func171 #[.slice A1 l1.length c1] ?_; (with_reducible refine (spec_DrawJoinPhases.calls kj30 _ _ l1 t799 _ ?side1 ?side2 A80.out).mono ?_); (case side1 => exact xC (Kd.C_below HR1.out HB.out)); (case side2 => exact HC1.out); rintro e w88 ⟨v800, rfl, ho0, hb⟩; refine ⟨_, rfl, ?_⟩; have HO801 := Aside0.mk (Kd.S_lower (Kd.S_new' (Kd.S_new' (Kd.S_new' ho0 (Kd.R_lt (xR HO790.out))) (Kd.S_lt (xS HO794.out))) (Kd.S_lt (xS HO798.out))) (below_size (xB HB.out))); replace HO790 := Aside0.mk (Kd.R_below (xR HO790.out) hb); replace HO794 := Aside0.mk (Kd.S_elder' (xS HO794.out) (Kd.S_base ho0) hb); replace HO798 := Aside0.mk (Kd.S_elder' (xS HO798.out) (Kd.S_base ho0) hb); replace HB := Aside0.mk (below_step (xB HB.out) hb); (try clear hb); (try clear hb2); (try clear hk); (try clear hi); (try clear ho0); obtain ⟨Ao89, co89, eo89⟩ := Kd.S_slice HO801.out; subst eo89) | (refine xG (some 294) Try.func172 #[.slice Ao89 t799.length co89] ?_; (with_reducible refine (impl_JoinPhases.calls kj30 _ _ t799 t802 t803 _ ?side1 ?side2 A81.out).mono ?_); (case side1 => exact xC ((Kd.S_reads' HO801.out).2.2)); (case side2 => exact (Kd.S_reads' HO801.out).2.1); rintro e w90 ⟨v804, rfl, ho0, hb⟩; refine ⟨_, rfl, ?_⟩; replace HO794 := Aside0.mk (Kd.S_elder' (xS HO794.out) (Kd.R_base ho0) hb); replace HO798 := Aside0.mk (Kd.S_elder' (xS HO798.out) (Kd.R_base ho0) hb); replace HO801 := Aside0.mk (Kd.S_elder' (xS HO801.out) (Kd.R_base ho0) hb); have HO805 := Aside0.mk (Kd.R_lower (Kd.R_new' ho0 (Kd.R_lt (xR HO790.out))) (below_size (xB HB.out))); replace HO790 := Aside0.mk (Kd.R_elder' (xR HO790.out) (Kd.R_base ho0) hb); replace HB := Aside0.mk (below_step (xB HB.out) hb); (try clear hb); (try clear hb2); (try clear hk); (try clear hi); (try clear ho0)) | (refine xG (some 299) Try.func173 #[.slice Ao89 t799.length co89] ?_; (with_reducible refine (spec_JoinPhases.calls kj30 _ _ t799 t806 t807 _ ?side1 ?side2 A82.out).mono ?_); (case side1 => exact xC ((Kd.S_reads' HO801.out).2.2)); (case side2 => exact (Kd.S_reads' HO801.out).2.1); rintro e w91 ⟨v808, rfl, ho0, hb⟩; refine ⟨_, rfl, ?_⟩; replace HO794 := Aside0.mk (Kd.S_elder' (xS HO794.out) (Kd.R_base ho0) hb); replace HO798 := Aside0.mk (Kd.S_elder' (xS HO798.out) (Kd.R_base ho0) hb); replace HO801 := Aside0.mk (Kd.S_elder' (xS HO801.out) (Kd.R_base ho0) hb); have HO809 := Aside0.mk (Kd.R_lower (Kd.R_new' (Kd.R_new' ho0 (Kd.R_lt (xR HO790.out))) (Kd.R_lt (xR HO805.out))) (below_size (xB HB.out))); replace HO790 := Aside0.mk (Kd.R_elder' (xR HO790.out) (Kd.R_base ho0) hb); replace HO805 := Aside0.mk (Kd.R_elder' (xR HO805.out) (Kd.R_base ho0) hb); replace HB := Aside0.mk (below_step (xB HB.out) hb); (try clear hb); (try clear hb2); (try clear hk); (try clear hi); (try clear ho0)))
     (try simp only [Act.put, List.setIfInBounds_toArray, List.set_cons_zero, List.set_cons_succ])
     go_cut [321] from 250 to 301 (fun v321 wc => ∃ (kq : Nat) (x321_82 : Bool), v321 = .bool x321_82 ∧ Aside0 (laws_FnPhasesWork.j5 kq l1 t787 t788 t791 t792 t799 t802 t803 x321_82 = some r) ∧ Aside0 (kq ≤ kj30) ∧ Aside0 (Kd.R (Kd.int .i64) 3 wc w.heap.size (fun k_ => some k_ ≠ (v804 : Value).ownBlock) (.slice Ao85 t787.length co85) t787) ∧ Aside0 (Kd.S (Kd.slice 3 (Kd.int .i64)) 24 wc w.heap.size (fun k_ => some k_ ≠ ((.slice Ao85 t787.length co85) : Value).ownBlock ∧ some k_ ≠ ((.slice Ao89 t799.length co89) : Value).ownBlock ∧ some k_ ≠ (v804 : Value).ownBlock) v793 t791) ∧ Aside0 (Kd.S (Kd.slice 3 (Kd.int .i64)) 24 wc w.heap.size (fun k_ => some k_ ≠ ((.slice Ao85 t787.length co85) : Value).ownBlock ∧ some k_ ≠ (v793 : Value).ownBlock ∧ some k_ ≠ (v804 : Value).ownBlock) (.slice Ao89 t799.length co89) t799) ∧ Aside0 (Kd.R (Kd.int .i64) 3 wc w.heap.size (fun k_ => some k_ ≠ ((.slice Ao85 t787.length co85) : Value).ownBlock) v804 t802) ∧ Aside0 (Below w.heap.size w wc))
     case first => as_aux_lemma =>
      have H := HC83.out
      clear HC83
      by_cases c92 : (t792 != t796) = true
      ·rw [if_pos c92] at H; exact absurd H (by have hr_ := HRT.out; cases kj30 <;> simp [laws_FnPhasesWork.j5, hr_])
      as_aux_lemma =>
       rw [if_neg c92] at H
       have c92b0 : (t792 != t796) = false := by simpa using c92
       (try (have c92b1 : decide (t792 = t796) = true := by simpa using c92))
       (try (have c92b2 : (t792 == t796) = true := by simpa using c92))
       clear c92
       (first | rw [c92b0] | (simp only [i64_w, i32_w]; rw [c92b0]) | skip)
       obtain ⟨t810, A93, H⟩ := xO H
       (try dsimp only at H)
       by_cases c94 : t810 = true
       rotate_left
       ·replace c94 := Bool.eq_false_iff.mpr c94; subst c94; exact absurd H (by have hr_ := HRT.out; cases kj30 <;> simp [laws_FnPhasesWork.j5, hr_])
       subst c94
       rw [if_pos rfl] at H
       by_cases c95 : (t803 != t807) = true
       ·rw [if_pos c95] at H; exact absurd H (by have hr_ := HRT.out; cases kj30 <;> simp [laws_FnPhasesWork.j5, hr_])
       rw [if_neg c95] at H
       have c95b0 : (t803 != t807) = false := by simpa using c95
       (try (have c95b1 : decide (t803 = t807) = true := by simpa using c95))
       (try (have c95b2 : (t803 == t807) = true := by simpa using c95))
       clear c95
       obtain ⟨t811, A96, H⟩ := xO H
       (try dsimp only at H)
       have H' := Aside0.mk H
       clear H
       obtain ⟨Ao97, co97, eo97⟩ := Kd.S_slice HO794.out
       subst eo97
       obtain ⟨Ao98, co98, eo98⟩ := Kd.S_slice HO798.out
       subst eo98
       go_wp2_with (first | (go_at_call 174; (with_reducible refine (laws_iRows.calls kj30 _ _ t791 _ _ t795 true _ ?side1 ?side2 ?side3 ?side4 A93.out).mono ?_); (case side1 => exact xC ((Kd.S_reads' HO794.out).2.2)); (case side2 => exact (Kd.S_reads' HO794.out).2.1); (case side3 => exact xC ((Kd.S_reads' HO798.out).2.2)); (case side4 => exact (Kd.S_reads' HO798.out).2.1); rintro e w' ⟨rfl, ⟨nd, rfl⟩⟩; obtain ⟨Ao99, co99, eo99⟩ := Kd.R_slice HO805.out; subst eo99; obtain ⟨Ao100, co100, eo100⟩ := Kd.R_slice HO809.out; subst eo100) | (go_at_call 21; (with_reducible refine (laws_iSame.calls kj30 _ _ t802 _ _ t806 t811 _ ?side1 ?side2 ?side3 ?side4 A96.out).mono ?_); (case side1 => exact xC ((Kd.R_reads' HO805.out).2.2)); (case side2 => exact (Kd.R_reads' HO805.out).2.1); (case side3 => exact xC ((Kd.R_reads' HO809.out).2.2)); (case side4 => exact (Kd.R_reads' HO809.out).2.1); rintro e w' ⟨rfl, ⟨nd, rfl⟩⟩))
       go_meet
       case rel => exact ⟨_, (!t811), (by first | rfl | (simp; done) | (simp [*]; done)), H', ⟨by have := HJ9.out; have := HJ30.out; first | omega | exact Nat.le_refl _⟩, ⟨by (with_reducible repeat (first | apply Kd.R_alloc | apply Kd.R_drewN | apply Kd.R_drew)); exact Kd.R_mono HO790.out (fun _ hk => hk.1.2)⟩, ⟨by (with_reducible repeat (first | apply Kd.S_alloc | apply Kd.S_drewN | apply Kd.S_drew)); exact Kd.S_mono HO794.out (fun _ hk => ⟨hk.1.1.1.1.2, ⟨hk.1.1.2, hk.1.2⟩⟩)⟩, ⟨by (with_reducible repeat (first | apply Kd.S_alloc | apply Kd.S_drewN | apply Kd.S_drew)); exact Kd.S_mono HO801.out (fun _ hk => ⟨hk.1.1.1.1.2, ⟨hk.1.1.1.2, hk.1.2⟩⟩)⟩, ⟨by (with_reducible repeat (first | apply Kd.R_alloc | apply Kd.R_drewN | apply Kd.R_drew)); exact Kd.R_mono HO805.out (fun _ hk => hk.1.2)⟩, ⟨xB HB.out⟩⟩
     case rest => as_aux_lemma =>
      clear HC83
      obtain ⟨kq, x321_82, rfl, HA, HJ82, HO_33, HO_35, HO_39, HO_40, HB⟩ := hcut
      cases kq with
      | zero => exact absurd HA.out (by simp [laws_FnPhasesWork.j5])
      | succ kj82 =>
       have H := HA.out
       clear HA
       simp only [laws_FnPhasesWork.j5] at H
       by_cases c101 : x321_82 = true
       ·as_aux_lemma =>
         subst c101
         rw [if_pos rfl] at H
         exact absurd ((Option.some.inj H).trans HRT.out) (by decide)
       replace c101 := Bool.eq_false_iff.mpr c101
       subst c101
       rw [if_neg (show ¬ (false = true) by decide)] at H
       have HC102 := Aside0.mk H
       clear H
       go_upto_if 322 with (fail)
       go_cut [] from 302 to 322 (fun wc => ∃ (kq : Nat), Aside0 (laws_FnPhasesWork.j6 kq l1 t799 t802 t803 = some r) ∧ Aside0 (kq ≤ kj82) ∧ Aside0 (Kd.S (Kd.slice 3 (Kd.int .i64)) 24 wc w.heap.size (fun k_ => some k_ ≠ (v804 : Value).ownBlock) (.slice Ao89 t799.length co89) t799) ∧ Aside0 (Kd.R (Kd.int .i64) 3 wc w.heap.size (fun _ => True) v804 t802) ∧ Aside0 (Below w.heap.size w wc))
       case first => as_aux_lemma =>
        have H := HC102.out
        clear HC102
        by_cases c103 : t792 = true
        rotate_left
        ·as_aux_lemma =>
          replace c103 := Bool.eq_false_iff.mpr c103
          subst c103
          rw [if_neg (show ¬ (false = true) by decide)] at H
          have H' := Aside0.mk H
          clear H
          go_wp2
          go_meet
          case rel => exact ⟨_, H', ⟨by have := HJ9.out; have := HJ30.out; have := HJ82.out; first | omega | exact Nat.le_refl _⟩, ⟨by (with_reducible repeat (first | apply Kd.S_alloc | apply Kd.S_drewN | apply Kd.S_drew)); exact Kd.S_mono HO_39.out (fun _ hk => hk.2.2)⟩, ⟨by (with_reducible repeat (first | apply Kd.R_alloc | apply Kd.R_drewN | apply Kd.R_drew)); exact Kd.R_mono HO_40.out (fun _ hk => trivial)⟩, ⟨xB HB.out⟩⟩
        subst c103
        rw [if_pos rfl] at H
        replace H := Option.bind_eq_some_iff.mp H
        obtain ⟨⟨t812, t813⟩, A1040, H⟩ := H
        (try dsimp only at H)
        have A104 := Aside0.mk A1040
        clear A1040
        by_cases c105 : t813 = true
        rotate_left
        ·as_aux_lemma =>
          replace c105 := Bool.eq_false_iff.mpr c105
          subst c105
          rw [if_neg (show ¬ (false = true) by decide)] at H
          exact absurd ((Option.some.inj H).trans HRT.out) (by decide)
        as_aux_lemma =>
         subst c105
         rw [if_pos rfl] at H
         obtain ⟨t816, A106, H⟩ := xO H
         (try dsimp only at H)
         by_cases c107 : t816 = true
         rotate_left
         ·replace c107 := Bool.eq_false_iff.mpr c107
          subst c107
          rw [if_neg (show ¬ (false = true) by decide)] at H
          exact absurd ((Option.some.inj H).trans HRT.out) (by decide)
         subst c107
         rw [if_pos rfl] at H
         by_cases c108 : (t791.length : Int) = t788
         rotate_left
         ·rw [if_neg c108] at H
          have c108b0 : ((t791.length : Int) == t788) = false := beq_eq_false_iff_ne.mpr c108
          have c108b1 : ((t791.length : Int) != t788) = true := bne_iff_ne.mpr c108
          (first | rw [c108b0] | (simp only [i64_w, i32_w]; rw [c108b0]) | skip)
          exact absurd ((Option.some.inj H).trans HRT.out) (by decide)
         rw [if_pos c108] at H
         have c108b0 : ((t791.length : Int) == t788) = true := beq_iff_eq.mpr c108
         have c108b1 : ((t791.length : Int) != t788) = false := bne_eq_false_iff_eq.mpr c108
         clear c108
         (first | rw [c108b0] | (simp only [i64_w, i32_w]; rw [c108b0]) | skip)
         have H' := Aside0.mk H
         clear H
         obtain ⟨Ao109, co109, eo109⟩ := Kd.S_slice HO_35.out
         subst eo109
         go_wp2_with (first | (refine xG (some 325) Try.func172 #[.slice Ao109 t791.length co109] ?_; (with_reducible refine (impl_JoinPhases.calls kj82 _ _ t791 t812 true _ ?side1 ?side2 A104.out).mono ?_); (case side1 => exact xC ((Kd.S_reads' HO_35.out).2.2)); (case side2 => exact (Kd.S_reads' HO_35.out).2.1); rintro e w110 ⟨v814, rfl, ho0, hb⟩; refine ⟨_, rfl, ?_⟩; replace HO_35 := Aside0.mk (Kd.S_elder' (xS HO_35.out) (Kd.R_base ho0) hb); replace HO_39 := Aside0.mk (Kd.S_elder' (xS HO_39.out) (Kd.R_base ho0) hb); have HO815 := Aside0.mk (Kd.R_lower (Kd.R_new' (Kd.R_new' ho0 (Kd.R_lt (xR HO_33.out))) (Kd.R_lt (xR HO_40.out))) (below_size (xB HB.out))); replace HO_33 := Aside0.mk (Kd.R_elder' (xR HO_33.out) (Kd.R_base ho0) hb); replace HO_40 := Aside0.mk (Kd.R_elder' (xR HO_40.out) (Kd.R_base ho0) hb); replace HB := Aside0.mk (below_step (xB HB.out) hb); (try clear hb); (try clear hb2); (try clear hk); (try clear hi); (try clear ho0); obtain ⟨Ao111, co111, eo111⟩ := Kd.R_slice HO815.out; subst eo111) | (go_at_call 21; (with_reducible refine (laws_iSame.calls kj82 _ _ t812 _ _ t787 true _ ?side1 ?side2 ?side3 ?side4 A106.out).mono ?_); (case side1 => exact xC ((Kd.R_reads' HO815.out).2.2)); (case side2 => exact (Kd.R_reads' HO815.out).2.1); (case side3 => exact xC ((Kd.R_reads' HO_33.out).2.2)); (case side4 => exact (Kd.R_reads' HO_33.out).2.1); rintro e w' ⟨rfl, ⟨nd, rfl⟩⟩))
         go_meet
         case rel => exact ⟨_, H', ⟨by have := HJ9.out; have := HJ30.out; have := HJ82.out; first | omega | exact Nat.le_refl _⟩, ⟨by (with_reducible repeat (first | apply Kd.S_alloc | apply Kd.S_drewN | apply Kd.S_drew)); exact Kd.S_mono HO_39.out (fun _ hk => hk.1.2.2)⟩, ⟨by (with_reducible repeat (first | apply Kd.R_alloc | apply Kd.R_drewN | apply Kd.R_drew)); exact Kd.R_mono HO_40.out (fun _ hk => trivial)⟩, ⟨xB HB.out⟩⟩
       case rest => as_aux_lemma =>
        clear HC102
        try clear c101
        obtain ⟨kq, HA, HJ101, HO_39, HO_40, HB⟩ := hcut
        cases kq with
        | zero => exact absurd HA.out (by simp [laws_FnPhasesWork.j6])
        | succ kj101 =>
         have H := HA.out
         clear HA
         simp only [laws_FnPhasesWork.j6] at H
         have HC112 := Aside0.mk H
         clear H
         go_upto_if 342 with (fail)
         go_cut [] from 323 to 342 (fun wc => ∃ (kq : Nat), Aside0 (laws_FnPhasesWork.j7 kq l1 = some r) ∧ Aside0 (kq ≤ kj101) ∧ Aside0 (Below w.heap.size w wc))
         case first => as_aux_lemma =>
          have H := HC112.out
          clear HC112
          by_cases c113 : t803 = true
          rotate_left
          ·as_aux_lemma =>
            replace c113 := Bool.eq_false_iff.mpr c113
            subst c113
            rw [if_neg (show ¬ (false = true) by decide)] at H
            have H' := Aside0.mk H
            clear H
            go_wp2
            go_meet
            case rel => exact ⟨_, H', ⟨by have := HJ9.out; have := HJ30.out; have := HJ82.out; have := HJ101.out; first | omega | exact Nat.le_refl _⟩, ⟨xB HB.out⟩⟩
          as_aux_lemma =>
           subst c113
           rw [if_pos rfl] at H
           replace H := Option.bind_eq_some_iff.mp H
           obtain ⟨⟨t817, t818⟩, A1140, H⟩ := H
           (try dsimp only at H)
           have A114 := Aside0.mk A1140
           clear A1140
           by_cases c115 : t818 = true
           rotate_left
           ·replace c115 := Bool.eq_false_iff.mpr c115
            subst c115
            rw [if_neg (show ¬ (false = true) by decide)] at H
            exact absurd ((Option.some.inj H).trans HRT.out) (by decide)
           subst c115
           rw [if_pos rfl] at H
           obtain ⟨t821, A116, H⟩ := xO H
           (try dsimp only at H)
           by_cases c117 : t821 = true
           rotate_left
           ·replace c117 := Bool.eq_false_iff.mpr c117
            subst c117
            rw [if_neg (show ¬ (false = true) by decide)] at H
            exact absurd ((Option.some.inj H).trans HRT.out) (by decide)
           subst c117
           rw [if_pos rfl] at H
           have H' := Aside0.mk H
           clear H
           obtain ⟨Ao118, co118, eo118⟩ := Kd.R_slice HO_40.out
           subst eo118
           go_wp2_with (first | (refine xG (some 347) Try.func169 #[.slice Ao118 t802.length co118, .int .i64 (t799.length : Int)] ?_; (with_reducible refine (impl_PhasesOf.calls kj101 _ _ t802 (t799.length : Int) t817 true _ ?side1 ?side2 A114.out).mono ?_); (case side1 => exact xC ((Kd.R_reads' HO_40.out).2.2)); (case side2 => exact (Kd.R_reads' HO_40.out).2.1); rintro e w119 ⟨v819, rfl, ho0, hb⟩; refine ⟨_, rfl, ?_⟩; have HO820 := Aside0.mk (Kd.S_lower (Kd.S_new' (Kd.S_new' ho0 (Kd.S_lt (xS HO_39.out))) (Kd.R_lt (xR HO_40.out))) (below_size (xB HB.out))); replace HO_39 := Aside0.mk (Kd.S_elder' (xS HO_39.out) (Kd.S_base ho0) hb); replace HO_40 := Aside0.mk (Kd.R_below (xR HO_40.out) hb); replace HB := Aside0.mk (below_step (xB HB.out) hb); (try clear hb); (try clear hb2); (try clear hk); (try clear hi); (try clear ho0); obtain ⟨Ao120, co120, eo120⟩ := Kd.S_slice HO820.out; subst eo120) | (go_at_call 174; (with_reducible refine (laws_iRows.calls kj101 _ _ t817 _ _ t799 true _ ?side1 ?side2 ?side3 ?side4 A116.out).mono ?_); (case side1 => exact xC ((Kd.S_reads' HO820.out).2.2)); (case side2 => exact (Kd.S_reads' HO820.out).2.1); (case side3 => exact xC ((Kd.S_reads' HO_39.out).2.2)); (case side4 => exact (Kd.S_reads' HO_39.out).2.1); rintro e w' ⟨rfl, ⟨nd, rfl⟩⟩))
           go_meet
           case rel => exact ⟨_, H', ⟨by have := HJ9.out; have := HJ30.out; have := HJ82.out; have := HJ101.out; first | omega | exact Nat.le_refl _⟩, ⟨xB HB.out⟩⟩
         case rest => as_aux_lemma =>
          clear HC112
          obtain ⟨kq, HA, HJ111, HB⟩ := hcut
          cases kq with
          | zero => exact absurd HA.out (by simp [laws_FnPhasesWork.j7])
          | succ kj111 =>
           have H := HA.out
           clear HA
           simp only [laws_FnPhasesWork.j7] at H
           obtain ⟨t822, A121, H⟩ := xO H
           (try dsimp only at H)
           replace H := Option.bind_eq_some_iff.mp H
           obtain ⟨⟨t825, t826, t827⟩, A1220, H⟩ := H
           (try dsimp only at H)
           have A122 := Aside0.mk A1220
           clear A1220
           replace H := Option.bind_eq_some_iff.mp H
           obtain ⟨⟨t832, t833, t834⟩, A1230, H⟩ := H
           (try dsimp only at H)
           have A123 := Aside0.mk A1230
           clear A1230
           replace H := Option.bind_eq_some_iff.mp H
           obtain ⟨⟨t839, t840⟩, A1240, H⟩ := H
           (try dsimp only at H)
           have A124 := Aside0.mk A1240
           clear A1240
           replace H := Option.bind_eq_some_iff.mp H
           obtain ⟨⟨t845, t846⟩, A1250, H⟩ := H
           (try dsimp only at H)
           have A125 := Aside0.mk A1250
           clear A1250
           replace H := Option.bind_eq_some_iff.mp H
           obtain ⟨⟨t849, t850⟩, A1260, H⟩ := H
           (try dsimp only at H)
           have A126 := Aside0.mk A1260
           clear A1260
           have HC127 := Aside0.mk H
           clear H
           go_upto_region 52 with (first | (refine xG (some 359) Try.func175 #[.slice A1 l1.length c1] ?_; (with_reducible refine (spec_DrawTwoBands.calls kj111 _ _ l1 t822 _ ?side1 ?side2 A121.out).mono ?_); (case side1 => exact xC (Kd.C_below HR1.out HB.out)); (case side2 => exact HC1.out); rintro e w128 ⟨v823, rfl, ho0, hb⟩; refine ⟨_, rfl, ?_⟩; have HO824 := Aside0.mk (Kd.Q_lower ho0 (below_size (xB HB.out))); replace HB := Aside0.mk (below_step (xB HB.out) hb); (try clear hb); (try clear hb2); (try clear hk); (try clear hi); (try clear ho0); obtain ⟨Ao129, co129, eo129, _⟩ := Kd.Q_slice HO824.out; subst eo129) | (refine xG (some 362) Try.func176 #[.slice Ao129 t822.length co129] ?_; (with_reducible refine (impl_TwoBands.calls kj111 _ _ t822 t825 t826 t827 _ ?side1 ?side2 A122.out).mono ?_); (case side1 => exact xC ((Kd.Q_reads' HO824.out).2.2)); (case side2 => exact (Kd.Q_reads' HO824.out).2.1); rintro e w130 ⟨v828, v830, rfl, ho0, ho1, hb⟩; refine ⟨_, rfl, ?_⟩; have HO829 := Aside0.mk (Kd.R_lower (Kd.R_new' ho0 (Kd.Q_lt (by (with_reducible repeat (first | apply Kd.Q_alloc | apply Kd.Q_drewN | apply Kd.Q_drew)); exact HO824.out))) (below_size (xB HB.out))); have HO831 := Aside0.mk (Kd.R_lower (Kd.R_new' ho1 (Kd.Q_lt (by (with_reducible repeat (first | apply Kd.Q_alloc | apply Kd.Q_drewN | apply Kd.Q_drew)); exact HO824.out))) (below_size (xB HB.out))); replace HO824 := Aside0.mk (Kd.Q_mono (Kd.Q_told (Kd.Q_told (Kd.Q_old (by (with_reducible repeat (first | apply Kd.Q_alloc | apply Kd.Q_drewN | apply Kd.Q_drew)); exact HO824.out) hb) (Kd.R_base ho0)) (Kd.R_base ho1)) (fun _ h_ => h_.1)); replace HB := Aside0.mk (below_step (xB HB.out) hb); (try clear hb); (try clear hb2); (try clear hk); (try clear hi); (try clear ho0); (try clear ho1)) | (refine xG (some 368) Try.func177 #[.slice Ao129 t822.length co129] ?_; (with_reducible refine (spec_TwoBands.calls kj111 _ _ t822 t832 t833 t834 _ ?side1 ?side2 A123.out).mono ?_); (case side1 => exact xC ((Kd.Q_reads' HO824.out).2.2)); (case side2 => exact (Kd.Q_reads' HO824.out).2.1); rintro e w131 ⟨v835, v837, rfl, ho0, ho1, hb⟩; refine ⟨_, rfl, ?_⟩; have HO836 := Aside0.mk (Kd.R_lower (Kd.R_new' (Kd.R_new' (Kd.R_new' ho0 (Kd.Q_lt (by (with_reducible repeat (first | apply Kd.Q_alloc | apply Kd.Q_drewN | apply Kd.Q_drew)); exact HO824.out))) (Kd.R_lt (xR HO829.out))) (Kd.R_lt (xR HO831.out))) (below_size (xB HB.out))); have HO838 := Aside0.mk (Kd.R_lower (Kd.R_new' (Kd.R_new' (Kd.R_new' ho1 (Kd.Q_lt (by (with_reducible repeat (first | apply Kd.Q_alloc | apply Kd.Q_drewN | apply Kd.Q_drew)); exact HO824.out))) (Kd.R_lt (xR HO829.out))) (Kd.R_lt (xR HO831.out))) (below_size (xB HB.out))); replace HO824 := Aside0.mk (Kd.Q_mono (Kd.Q_told (Kd.Q_told (Kd.Q_old (by (with_reducible repeat (first | apply Kd.Q_alloc | apply Kd.Q_drewN | apply Kd.Q_drew)); exact HO824.out) hb) (Kd.R_base ho0)) (Kd.R_base ho1)) (fun _ h_ => h_.1)); replace HO829 := Aside0.mk (Kd.R_mono (Kd.R_told (Kd.R_told (Kd.R_old (xR HO829.out) hb) (Kd.R_base ho0)) (Kd.R_base ho1)) (fun _ h_ => h_.1)); replace HO831 := Aside0.mk (Kd.R_mono (Kd.R_told (Kd.R_told (Kd.R_old (xR HO831.out) hb) (Kd.R_base ho0)) (Kd.R_base ho1)) (fun _ h_ => h_.1)); replace HB := Aside0.mk (below_step (xB HB.out) hb); (try clear hb); (try clear hb2); (try clear hk); (try clear hi); (try clear ho0); (try clear ho1)) | (refine xG (some 374) Try.func178 #[.slice A1 l1.length c1] ?_; (with_reducible refine (spec_DrawJoinBands.calls kj111 _ _ l1 t839 t840 _ ?side1 ?side2 A124.out).mono ?_); (case side1 => exact xC (Kd.C_below HR1.out HB.out)); (case side2 => exact HC1.out); rintro e w132 ⟨v841, v843, rfl, ho0, ho1, hb⟩; refine ⟨_, rfl, ?_⟩; have HO842 := Aside0.mk (Kd.R_lower (Kd.R_new' (Kd.R_new' (Kd.R_new' (Kd.R_new' (Kd.R_new' ho0 (Kd.Q_lt (by (with_reducible repeat (first | apply Kd.Q_alloc | apply Kd.Q_drewN | apply Kd.Q_drew)); exact HO824.out))) (Kd.R_lt (xR HO829.out))) (Kd.R_lt (xR HO831.out))) (Kd.R_lt (xR HO836.out))) (Kd.R_lt (xR HO838.out))) (below_size (xB HB.out))); have HO844 := Aside0.mk (Kd.R_lower (Kd.R_new' (Kd.R_new' (Kd.R_new' (Kd.R_new' (Kd.R_new' ho1 (Kd.Q_lt (by (with_reducible repeat (first | apply Kd.Q_alloc | apply Kd.Q_drewN | apply Kd.Q_drew)); exact HO824.out))) (Kd.R_lt (xR HO829.out))) (Kd.R_lt (xR HO831.out))) (Kd.R_lt (xR HO836.out))) (Kd.R_lt (xR HO838.out))) (below_size (xB HB.out))); replace HO824 := Aside0.mk (Kd.Q_mono (Kd.Q_told (Kd.Q_told (Kd.Q_old (by (with_reducible repeat (first | apply Kd.Q_alloc | apply Kd.Q_drewN | apply Kd.Q_drew)); exact HO824.out) hb) (Kd.R_base ho0)) (Kd.R_base ho1)) (fun _ h_ => h_.1)); replace HO829 := Aside0.mk (Kd.R_mono (Kd.R_told (Kd.R_told (Kd.R_old (xR HO829.out) hb) (Kd.R_base ho0)) (Kd.R_base ho1)) (fun _ h_ => h_.1)); replace HO831 := Aside0.mk (Kd.R_mono (Kd.R_told (Kd.R_told (Kd.R_old (xR HO831.out) hb) (Kd.R_base ho0)) (Kd.R_base ho1)) (fun _ h_ => h_.1)); replace HO836 := Aside0.mk (Kd.R_mono (Kd.R_told (Kd.R_told (Kd.R_old (xR HO836.out) hb) (Kd.R_base ho0)) (Kd.R_base ho1)) (fun _ h_ => h_.1)); replace HO838 := Aside0.mk (Kd.R_mono (Kd.R_told (Kd.R_told (Kd.R_old (xR HO838.out) hb) (Kd.R_base ho0)) (Kd.R_base ho1)) (fun _ h_ => h_.1)); replace HB := Aside0.mk (below_step (xB HB.out) hb); (try clear hb); (try clear hb2); (try clear hk); (try clear hi); (try clear ho0); (try clear ho1); obtain ⟨Ao133, co133, eo133⟩ := Kd.R_slice HO842.out; subst eo133; obtain ⟨Ao134, co134, eo134⟩ := Kd.R_slice HO844.out; subst eo134) | (refine xG (some 380) Try.func179 #[.slice Ao133 t839.length co133, .slice Ao134 t840.length co134] ?_; (with_reducible refine (impl_JoinBands.calls kj111 _ _ t839 _ _ t840 t845 t846 _ ?side1 ?side2 ?side3 ?side4 A125.out).mono ?_); (case side1 => exact xC ((Kd.R_reads' HO842.out).2.2)); (case side2 => exact (Kd.R_reads' HO842.out).2.1); (case side3 => exact xC ((Kd.R_reads' HO844.out).2.2)); (case side4 => exact (Kd.R_reads' HO844.out).2.1); rintro e w135 ⟨v847, rfl, ho0, hb⟩; refine ⟨_, rfl, ?_⟩; have HO848 := Aside0.mk (Kd.R_lower (Kd.R_new' (Kd.R_new' (Kd.R_new' (Kd.R_new' (Kd.R_new' (Kd.R_new' (Kd.R_new' ho0 (Kd.Q_lt (by (with_reducible repeat (first | apply Kd.Q_alloc | apply Kd.Q_drewN | apply Kd.Q_drew)); exact HO824.out))) (Kd.R_lt (xR HO829.out))) (Kd.R_lt (xR HO831.out))) (Kd.R_lt (xR HO836.out))) (Kd.R_lt (xR HO838.out))) (Kd.R_lt (xR HO842.out))) (Kd.R_lt (xR HO844.out))) (below_size (xB HB.out))); replace HO824 := Aside0.mk (Kd.Q_elder' (by (with_reducible repeat (first | apply Kd.Q_alloc | apply Kd.Q_drewN | apply Kd.Q_drew)); exact HO824.out) (Kd.R_base ho0) hb); replace HO829 := Aside0.mk (Kd.R_elder' (xR HO829.out) (Kd.R_base ho0) hb); replace HO831 := Aside0.mk (Kd.R_elder' (xR HO831.out) (Kd.R_base ho0) hb); replace HO836 := Aside0.mk (Kd.R_elder' (xR HO836.out) (Kd.R_base ho0) hb); replace HO838 := Aside0.mk (Kd.R_elder' (xR HO838.out) (Kd.R_base ho0) hb); replace HO842 := Aside0.mk (Kd.R_elder' (xR HO842.out) (Kd.R_base ho0) hb); replace HO844 := Aside0.mk (Kd.R_elder' (xR HO844.out) (Kd.R_base ho0) hb); replace HB := Aside0.mk (below_step (xB HB.out) hb); (try clear hb); (try clear hb2); (try clear hk); (try clear hi); (try clear ho0)) | (refine xG (some 386) Try.func180 #[.slice Ao133 t839.length co133, .slice Ao134 t840.length co134] ?_; (with_reducible refine (spec_JoinBands.calls kj111 _ _ t839 _ _ t840 t849 t850 _ ?side1 ?side2 ?side3 ?side4 A126.out).mono ?_); (case side1 => exact xC ((Kd.R_reads' HO842.out).2.2)); (case side2 => exact (Kd.R_reads' HO842.out).2.1); (case side3 => exact xC ((Kd.R_reads' HO844.out).2.2)); (case side4 => exact (Kd.R_reads' HO844.out).2.1); rintro e w136 ⟨v851, rfl, ho0, hb⟩; refine ⟨_, rfl, ?_⟩; have HO852 := Aside0.mk (Kd.R_lower (Kd.R_new' (Kd.R_new' (Kd.R_new' (Kd.R_new' (Kd.R_new' (Kd.R_new' (Kd.R_new' (Kd.R_new' ho0 (Kd.Q_lt (by (with_reducible repeat (first | apply Kd.Q_alloc | apply Kd.Q_drewN | apply Kd.Q_drew)); exact HO824.out))) (Kd.R_lt (xR HO829.out))) (Kd.R_lt (xR HO831.out))) (Kd.R_lt (xR HO836.out))) (Kd.R_lt (xR HO838.out))) (Kd.R_lt (xR HO842.out))) (Kd.R_lt (xR HO844.out))) (Kd.R_lt (xR HO848.out))) (below_size (xB HB.out))); replace HO824 := Aside0.mk (Kd.Q_elder' (by (with_reducible repeat (first | apply Kd.Q_alloc | apply Kd.Q_drewN | apply Kd.Q_drew)); exact HO824.out) (Kd.R_base ho0) hb); replace HO829 := Aside0.mk (Kd.R_elder' (xR HO829.out) (Kd.R_base ho0) hb); replace HO831 := Aside0.mk (Kd.R_elder' (xR HO831.out) (Kd.R_base ho0) hb); replace HO836 := Aside0.mk (Kd.R_elder' (xR HO836.out) (Kd.R_base ho0) hb); replace HO838 := Aside0.mk (Kd.R_elder' (xR HO838.out) (Kd.R_base ho0) hb); replace HO842 := Aside0.mk (Kd.R_elder' (xR HO842.out) (Kd.R_base ho0) hb); replace HO844 := Aside0.mk (Kd.R_elder' (xR HO844.out) (Kd.R_base ho0) hb); replace HO848 := Aside0.mk (Kd.R_elder' (xR HO848.out) (Kd.R_base ho0) hb); replace HB := Aside0.mk (below_step (xB HB.out) hb); (try clear hb); (try clear hb2); (try clear hk); (try clear hi); (try clear ho0)))
           (try simp only [Act.put, List.setIfInBounds_toArray, List.set_cons_zero, List.set_cons_succ])
           go_cut [414] from 343 to 388 (fun v414 wc => ∃ (kq : Nat) (x414_126 : Bool), v414 = .bool x414_126 ∧ Aside0 (laws_FnPhasesWork.j8 kq l1 t822 t825 t826 t827 t839 t840 t845 t846 x414_126 = some r) ∧ Aside0 (kq ≤ kj111) ∧ Aside0 (Kd.Q (Kd.int .i64) 3 wc w.heap.size (fun k_ => some k_ ≠ (v828 : Value).ownBlock ∧ some k_ ≠ (v830 : Value).ownBlock ∧ some k_ ≠ ((.slice Ao133 t839.length co133) : Value).ownBlock ∧ some k_ ≠ ((.slice Ao134 t840.length co134) : Value).ownBlock ∧ some k_ ≠ (v847 : Value).ownBlock) (.slice Ao129 t822.length co129) t822) ∧ Aside0 (Kd.R (Kd.int .i64) 3 wc w.heap.size (fun k_ => some k_ ≠ ((.slice Ao129 t822.length co129) : Value).ownBlock ∧ some k_ ≠ (v830 : Value).ownBlock ∧ some k_ ≠ ((.slice Ao133 t839.length co133) : Value).ownBlock ∧ some k_ ≠ ((.slice Ao134 t840.length co134) : Value).ownBlock ∧ some k_ ≠ (v847 : Value).ownBlock) v828 t825) ∧ Aside0 (Kd.R (Kd.int .i64) 3 wc w.heap.size (fun k_ => some k_ ≠ ((.slice Ao129 t822.length co129) : Value).ownBlock ∧ some k_ ≠ (v828 : Value).ownBlock ∧ some k_ ≠ ((.slice Ao133 t839.length co133) : Value).ownBlock ∧ some k_ ≠ ((.slice Ao134 t840.length co134) : Value).ownBlock ∧ some k_ ≠ (v847 : Value).ownBlock) v830 t826) ∧ Aside0 (Kd.R (Kd.int .i64) 3 wc w.heap.size (fun k_ => some k_ ≠ ((.slice Ao129 t822.length co129) : Value).ownBlock ∧ some k_ ≠ (v828 : Value).ownBlock ∧ some k_ ≠ (v830 : Value).ownBlock ∧ some k_ ≠ ((.slice Ao134 t840.length co134) : Value).ownBlock ∧ some k_ ≠ (v847 : Value).ownBlock) (.slice Ao133 t839.length co133) t839) ∧ Aside0 (Kd.R (Kd.int .i64) 3 wc w.heap.size (fun k_ => some k_ ≠ ((.slice Ao129 t822.length co129) : Value).ownBlock ∧ some k_ ≠ (v828 : Value).ownBlock ∧ some k_ ≠ (v830 : Value).ownBlock ∧ some k_ ≠ ((.slice Ao133 t839.length co133) : Value).ownBlock ∧ some k_ ≠ (v847 : Value).ownBlock) (.slice Ao134 t840.length co134) t840) ∧ Aside0 (Kd.R (Kd.int .i64) 3 wc w.heap.size (fun k_ => some k_ ≠ ((.slice Ao129 t822.length co129) : Value).ownBlock ∧ some k_ ≠ (v828 : Value).ownBlock ∧ some k_ ≠ (v830 : Value).ownBlock ∧ some k_ ≠ ((.slice Ao133 t839.length co133) : Value).ownBlock ∧ some k_ ≠ ((.slice Ao134 t840.length co134) : Value).ownBlock) v847 t845) ∧ Aside0 (Below w.heap.size w wc))
           case first => as_aux_lemma =>
            have H := HC127.out
            clear HC127
            by_cases c137 : (t827 != t834) = true
            ·rw [if_pos c137] at H; exact absurd H (by have hr_ := HRT.out; cases kj111 <;> simp [laws_FnPhasesWork.j8, hr_])
            rw [if_neg c137] at H
            have c137b0 : (t827 != t834) = false := by simpa using c137
            (try (have c137b1 : decide (t827 = t834) = true := by simpa using c137))
            (try (have c137b2 : (t827 == t834) = true := by simpa using c137))
            clear c137
            (first | rw [c137b0] | (simp only [i64_w, i32_w]; rw [c137b0]) | skip)
            obtain ⟨t853, A138, H⟩ := xO H
            (try dsimp only at H)
            by_cases c139 : t853 = true
            rotate_left
            ·replace c139 := Bool.eq_false_iff.mpr c139; subst c139; exact absurd H (by have hr_ := HRT.out; cases kj111 <;> simp [laws_FnPhasesWork.j8, hr_])
            as_aux_lemma =>
             subst c139
             rw [if_pos rfl] at H
             obtain ⟨t854, A140, H⟩ := xO H
             (try dsimp only at H)
             by_cases c141 : t854 = true
             rotate_left
             ·replace c141 := Bool.eq_false_iff.mpr c141; subst c141; exact absurd H (by have hr_ := HRT.out; cases kj111 <;> simp [laws_FnPhasesWork.j8, hr_])
             subst c141
             rw [if_pos rfl] at H
             by_cases c142 : (t846 != t850) = true
             ·rw [if_pos c142] at H; exact absurd H (by have hr_ := HRT.out; cases kj111 <;> simp [laws_FnPhasesWork.j8, hr_])
             rw [if_neg c142] at H
             have c142b0 : (t846 != t850) = false := by simpa using c142
             (try (have c142b1 : decide (t846 = t850) = true := by simpa using c142))
             (try (have c142b2 : (t846 == t850) = true := by simpa using c142))
             clear c142
             obtain ⟨t855, A143, H⟩ := xO H
             (try dsimp only at H)
             have H' := Aside0.mk H
             clear H
             obtain ⟨Ao144, co144, eo144⟩ := Kd.R_slice HO829.out
             subst eo144
             obtain ⟨Ao145, co145, eo145⟩ := Kd.R_slice HO836.out
             subst eo145
             go_wp2_with (first | (go_at_call 21; (with_reducible refine (laws_iSame.calls kj111 _ _ t825 _ _ t832 true _ ?side1 ?side2 ?side3 ?side4 A138.out).mono ?_); (case side1 => exact xC ((Kd.R_reads' HO829.out).2.2)); (case side2 => exact (Kd.R_reads' HO829.out).2.1); (case side3 => exact xC ((Kd.R_reads' HO836.out).2.2)); (case side4 => exact (Kd.R_reads' HO836.out).2.1); rintro e w' ⟨rfl, ⟨nd, rfl⟩⟩; obtain ⟨Ao146, co146, eo146⟩ := Kd.R_slice HO831.out; subst eo146; obtain ⟨Ao147, co147, eo147⟩ := Kd.R_slice HO838.out; subst eo147) | (go_at_call 21; (with_reducible refine (laws_iSame.calls kj111 _ _ t826 _ _ t833 true _ ?side1 ?side2 ?side3 ?side4 A140.out).mono ?_); (case side1 => exact xC ((Kd.R_reads' HO831.out).2.2)); (case side2 => exact (Kd.R_reads' HO831.out).2.1); (case side3 => exact xC ((Kd.R_reads' HO838.out).2.2)); (case side4 => exact (Kd.R_reads' HO838.out).2.1); rintro e w' ⟨rfl, ⟨nd, rfl⟩⟩; obtain ⟨Ao148, co148, eo148⟩ := Kd.R_slice HO848.out; subst eo148; obtain ⟨Ao149, co149, eo149⟩ := Kd.R_slice HO852.out; subst eo149) | (go_at_call 21; (with_reducible refine (laws_iSame.calls kj111 _ _ t845 _ _ t849 t855 _ ?side1 ?side2 ?side3 ?side4 A143.out).mono ?_); (case side1 => exact xC ((Kd.R_reads' HO848.out).2.2)); (case side2 => exact (Kd.R_reads' HO848.out).2.1); (case side3 => exact xC ((Kd.R_reads' HO852.out).2.2)); (case side4 => exact (Kd.R_reads' HO852.out).2.1); rintro e w' ⟨rfl, ⟨nd, rfl⟩⟩))
             go_meet
             case rel => exact ⟨_, (!t855), (by first | rfl | (simp; done) | (simp [*]; done)), H', ⟨by have := HJ9.out; have := HJ30.out; have := HJ82.out; have := HJ101.out; have := HJ111.out; first | omega | exact Nat.le_refl _⟩, ⟨by (with_reducible repeat (first | apply Kd.Q_alloc | apply Kd.Q_drewN | apply Kd.Q_drew)); exact Kd.Q_mono HO824.out (fun _ hk => ⟨hk.1.1.1.1.1.1.1.2, ⟨hk.1.1.1.1.1.1.2, ⟨hk.1.1.1.2, ⟨hk.1.1.2, hk.1.2⟩⟩⟩⟩)⟩, ⟨by (with_reducible repeat (first | apply Kd.R_alloc | apply Kd.R_drewN | apply Kd.R_drew)); exact Kd.R_mono HO829.out (fun _ hk => ⟨hk.1.1.1.1.1.1.2, ⟨hk.1.1.1.1.1.1.1, ⟨hk.1.1.1.2, ⟨hk.1.1.2, hk.1.2⟩⟩⟩⟩)⟩, ⟨by (with_reducible repeat (first | apply Kd.R_alloc | apply Kd.R_drewN | apply Kd.R_drew)); exact Kd.R_mono HO831.out (fun _ hk => ⟨hk.1.1.1.1.1.1.2, ⟨hk.1.1.1.1.1.1.1, ⟨hk.1.1.1.2, ⟨hk.1.1.2, hk.1.2⟩⟩⟩⟩)⟩, ⟨by (with_reducible repeat (first | apply Kd.R_alloc | apply Kd.R_drewN | apply Kd.R_drew)); exact Kd.R_mono HO842.out (fun _ hk => ⟨hk.1.1.1.1.1.1.2, ⟨hk.1.1.1.1.1.2, ⟨hk.1.1.1.1.2, ⟨hk.1.1.1.1.1.1.1, hk.1.2⟩⟩⟩⟩)⟩, ⟨by (with_reducible repeat (first | apply Kd.R_alloc | apply Kd.R_drewN | apply Kd.R_drew)); exact Kd.R_mono HO844.out (fun _ hk => ⟨hk.1.1.1.1.1.1.2, ⟨hk.1.1.1.1.1.2, ⟨hk.1.1.1.1.2, ⟨hk.1.1.1.1.1.1.1, hk.1.2⟩⟩⟩⟩)⟩, ⟨by (with_reducible repeat (first | apply Kd.R_alloc | apply Kd.R_drewN | apply Kd.R_drew)); exact Kd.R_mono HO848.out (fun _ hk => ⟨hk.1.1.1.1.1.1.1.2, ⟨hk.1.1.1.1.1.1.2, ⟨hk.1.1.1.1.1.2, ⟨hk.1.1.2, hk.1.2⟩⟩⟩⟩)⟩, ⟨xB HB.out⟩⟩
           case rest => as_aux_lemma =>
            clear HC127
            obtain ⟨kq, x414_126, rfl, HA, HJ126, HO_48, HO_49, HO_50, HO_55, HO_56, HO_57, HB⟩ := hcut
            cases kq with
            | zero => exact absurd HA.out (by simp [laws_FnPhasesWork.j8])
            | succ kj126 =>
             have H := HA.out
             clear HA
             simp only [laws_FnPhasesWork.j8] at H
             by_cases c150 : x414_126 = true
             ·as_aux_lemma =>
               subst c150
               rw [if_pos rfl] at H
               exact absurd ((Option.some.inj H).trans HRT.out) (by decide)
             replace c150 := Bool.eq_false_iff.mpr c150
             subst c150
             rw [if_neg (show ¬ (false = true) by decide)] at H
             have HC151 := Aside0.mk H
             clear H
             go_upto_if 415 with (fail)
             go_cut [] from 389 to 415 (fun wc => ∃ (kq : Nat), Aside0 (laws_FnPhasesWork.j9 kq l1 t839 t840 t845 t846 = some r) ∧ Aside0 (kq ≤ kj126) ∧ Aside0 (Kd.R (Kd.int .i64) 3 wc w.heap.size (fun k_ => some k_ ≠ ((.slice Ao134 t840.length co134) : Value).ownBlock ∧ some k_ ≠ (v847 : Value).ownBlock) (.slice Ao133 t839.length co133) t839) ∧ Aside0 (Kd.R (Kd.int .i64) 3 wc w.heap.size (fun k_ => some k_ ≠ ((.slice Ao133 t839.length co133) : Value).ownBlock ∧ some k_ ≠ (v847 : Value).ownBlock) (.slice Ao134 t840.length co134) t840) ∧ Aside0 (Kd.R (Kd.int .i64) 3 wc w.heap.size (fun k_ => some k_ ≠ ((.slice Ao133 t839.length co133) : Value).ownBlock ∧ some k_ ≠ ((.slice Ao134 t840.length co134) : Value).ownBlock) v847 t845) ∧ Aside0 (Below w.heap.size w wc))
             case first => as_aux_lemma =>
              have H := HC151.out
              clear HC151
              by_cases c152 : t827 = true
              rotate_left
              ·as_aux_lemma =>
                replace c152 := Bool.eq_false_iff.mpr c152
                subst c152
                rw [if_neg (show ¬ (false = true) by decide)] at H
                have H' := Aside0.mk H
                clear H
                go_wp2
                go_meet
                case rel => exact ⟨_, H', ⟨by have := HJ9.out; have := HJ30.out; have := HJ82.out; have := HJ101.out; have := HJ111.out; have := HJ126.out; first | omega | exact Nat.le_refl _⟩, ⟨by (with_reducible repeat (first | apply Kd.R_alloc | apply Kd.R_drewN | apply Kd.R_drew)); exact Kd.R_mono HO_55.out (fun _ hk => ⟨hk.2.2.2.1, hk.2.2.2.2⟩)⟩, ⟨by (with_reducible repeat (first | apply Kd.R_alloc | apply Kd.R_drewN | apply Kd.R_drew)); exact Kd.R_mono HO_56.out (fun _ hk => ⟨hk.2.2.2.1, hk.2.2.2.2⟩)⟩, ⟨by (with_reducible repeat (first | apply Kd.R_alloc | apply Kd.R_drewN | apply Kd.R_drew)); exact Kd.R_mono HO_57.out (fun _ hk => ⟨hk.2.2.2.1, hk.2.2.2.2⟩)⟩, ⟨xB HB.out⟩⟩
              as_aux_lemma =>
               subst c152
               rw [if_pos rfl] at H
               replace H := Option.bind_eq_some_iff.mp H
               obtain ⟨⟨t856, t857⟩, A1530, H⟩ := H
               (try dsimp only at H)
               have A153 := Aside0.mk A1530
               clear A1530
               by_cases c154 : t857 = true
               rotate_left
               ·replace c154 := Bool.eq_false_iff.mpr c154
                subst c154
                rw [if_neg (show ¬ (false = true) by decide)] at H
                exact absurd ((Option.some.inj H).trans HRT.out) (by decide)
               subst c154
               rw [if_pos rfl] at H
               obtain ⟨t860, A155, H⟩ := xO H
               (try dsimp only at H)
               by_cases c156 : t860 = true
               rotate_left
               ·replace c156 := Bool.eq_false_iff.mpr c156
                subst c156
                rw [if_neg (show ¬ (false = true) by decide)] at H
                exact absurd ((Option.some.inj H).trans HRT.out) (by decide)
               subst c156
               rw [if_pos rfl] at H
               have H' := Aside0.mk H
               clear H
               obtain ⟨Ao157, co157, eo157⟩ := Kd.R_slice HO_49.out
               subst eo157
               obtain ⟨Ao158, co158, eo158⟩ := Kd.R_slice HO_50.out
               subst eo158
               go_wp2_with (first | (refine xG (some 419) Try.func179 #[.slice Ao157 t825.length co157, .slice Ao158 t826.length co158] ?_; (with_reducible refine (impl_JoinBands.calls kj126 _ _ t825 _ _ t826 t856 true _ ?side1 ?side2 ?side3 ?side4 A153.out).mono ?_); (case side1 => exact xC ((Kd.R_reads' HO_49.out).2.2)); (case side2 => exact (Kd.R_reads' HO_49.out).2.1); (case side3 => exact xC ((Kd.R_reads' HO_50.out).2.2)); (case side4 => exact (Kd.R_reads' HO_50.out).2.1); rintro e w159 ⟨v858, rfl, ho0, hb⟩; refine ⟨_, rfl, ?_⟩; have HO859 := Aside0.mk (Kd.R_lower (Kd.R_new' (Kd.R_new' (Kd.R_new' (Kd.R_new' (Kd.R_new' (Kd.R_new' ho0 (Kd.Q_lt (by (with_reducible repeat (first | apply Kd.Q_alloc | apply Kd.Q_drewN | apply Kd.Q_drew)); exact HO_48.out))) (Kd.R_lt (xR HO_49.out))) (Kd.R_lt (xR HO_50.out))) (Kd.R_lt (xR HO_55.out))) (Kd.R_lt (xR HO_56.out))) (Kd.R_lt (xR HO_57.out))) (below_size (xB HB.out))); replace HO_48 := Aside0.mk (Kd.Q_elder' (by (with_reducible repeat (first | apply Kd.Q_alloc | apply Kd.Q_drewN | apply Kd.Q_drew)); exact HO_48.out) (Kd.R_base ho0) hb); replace HO_49 := Aside0.mk (Kd.R_elder' (xR HO_49.out) (Kd.R_base ho0) hb); replace HO_50 := Aside0.mk (Kd.R_elder' (xR HO_50.out) (Kd.R_base ho0) hb); replace HO_55 := Aside0.mk (Kd.R_elder' (xR HO_55.out) (Kd.R_base ho0) hb); replace HO_56 := Aside0.mk (Kd.R_elder' (xR HO_56.out) (Kd.R_base ho0) hb); replace HO_57 := Aside0.mk (Kd.R_elder' (xR HO_57.out) (Kd.R_base ho0) hb); replace HB := Aside0.mk (below_step (xB HB.out) hb); (try clear hb); (try clear hb2); (try clear hk); (try clear hi); (try clear ho0); obtain ⟨Ao160, co160, eo160⟩ := Kd.R_slice HO859.out; subst eo160) | (go_at_call 21; (with_reducible refine (laws_iSame.calls kj126 _ _ t856 _ _ t822 true _ ?side1 ?side2 ?side3 ?side4 A155.out).mono ?_); (case side1 => exact xC ((Kd.R_reads' HO859.out).2.2)); (case side2 => exact (Kd.R_reads' HO859.out).2.1); (case side3 => exact xC ((Kd.Q_reads' HO_48.out).2.2)); (case side4 => exact (Kd.Q_reads' HO_48.out).2.1); rintro e w' ⟨rfl, ⟨nd, rfl⟩⟩))
               go_meet
               case rel => exact ⟨_, H', ⟨by have := HJ9.out; have := HJ30.out; have := HJ82.out; have := HJ101.out; have := HJ111.out; have := HJ126.out; first | omega | exact Nat.le_refl _⟩, ⟨by (with_reducible repeat (first | apply Kd.R_alloc | apply Kd.R_drewN | apply Kd.R_drew)); exact Kd.R_mono HO_55.out (fun _ hk => ⟨hk.1.2.2.2.1, hk.1.2.2.2.2⟩)⟩, ⟨by (with_reducible repeat (first | apply Kd.R_alloc | apply Kd.R_drewN | apply Kd.R_drew)); exact Kd.R_mono HO_56.out (fun _ hk => ⟨hk.1.2.2.2.1, hk.1.2.2.2.2⟩)⟩, ⟨by (with_reducible repeat (first | apply Kd.R_alloc | apply Kd.R_drewN | apply Kd.R_drew)); exact Kd.R_mono HO_57.out (fun _ hk => ⟨hk.1.2.2.2.1, hk.1.2.2.2.2⟩)⟩, ⟨xB HB.out⟩⟩
             case rest => as_aux_lemma =>
              clear HC151
              try clear c150
              obtain ⟨kq, HA, HJ150, HO_55, HO_56, HO_57, HB⟩ := hcut
              cases kq with
              | zero => exact absurd HA.out (by simp [laws_FnPhasesWork.j9])
              | succ kj150 =>
               have H := HA.out
               clear HA
               simp only [laws_FnPhasesWork.j9] at H
               have HC161 := Aside0.mk H
               clear H
               go_upto_if 430 with (fail)
               go_cut [] from 416 to 430 (fun wc => ∃ (kq : Nat), Aside0 (laws_FnPhasesWork.j10 kq l1 = some r) ∧ Aside0 (kq ≤ kj150) ∧ Aside0 (Below w.heap.size w wc))
               case first => as_aux_lemma =>
                have H := HC161.out
                clear HC161
                by_cases c162 : t846 = true
                rotate_left
                ·as_aux_lemma =>
                  replace c162 := Bool.eq_false_iff.mpr c162
                  subst c162
                  rw [if_neg (show ¬ (false = true) by decide)] at H
                  have H' := Aside0.mk H
                  clear H
                  go_wp2
                  go_meet
                  case rel => exact ⟨_, H', ⟨by have := HJ9.out; have := HJ30.out; have := HJ82.out; have := HJ101.out; have := HJ111.out; have := HJ126.out; have := HJ150.out; first | omega | exact Nat.le_refl _⟩, ⟨xB HB.out⟩⟩
                subst c162
                rw [if_pos rfl] at H
                replace H := Option.bind_eq_some_iff.mp H
                obtain ⟨⟨t861, t862, t863⟩, A1630, H⟩ := H
                (try dsimp only at H)
                have A163 := Aside0.mk A1630
                clear A1630
                by_cases c164 : t863 = true
                rotate_left
                ·as_aux_lemma =>
                  replace c164 := Bool.eq_false_iff.mpr c164
                  subst c164
                  rw [if_neg (show ¬ (false = true) by decide)] at H
                  exact absurd ((Option.some.inj H).trans HRT.out) (by decide)
                as_aux_lemma =>
                 subst c164
                 rw [if_pos rfl] at H
                 obtain ⟨t868, A165, H⟩ := xO H
                 (try dsimp only at H)
                 by_cases c166 : t868 = true
                 rotate_left
                 ·replace c166 := Bool.eq_false_iff.mpr c166
                  subst c166
                  rw [if_neg (show ¬ (false = true) by decide)] at H
                  exact absurd ((Option.some.inj H).trans HRT.out) (by decide)
                 subst c166
                 rw [if_pos rfl] at H
                 obtain ⟨t869, A167, H⟩ := xO H
                 (try dsimp only at H)
                 by_cases c168 : t869 = true
                 rotate_left
                 ·replace c168 := Bool.eq_false_iff.mpr c168
                  subst c168
                  rw [if_neg (show ¬ (false = true) by decide)] at H
                  exact absurd ((Option.some.inj H).trans HRT.out) (by decide)
                 subst c168
                 rw [if_pos rfl] at H
                 have H' := Aside0.mk H
                 clear H
                 obtain ⟨Ao169, co169, eo169⟩ := Kd.R_slice HO_57.out
                 subst eo169
                 go_wp2_with (first | (refine xG (some 433) Try.func176 #[.slice Ao169 t845.length co169] ?_; (with_reducible refine (impl_TwoBands.calls kj150 _ _ t845 t861 t862 true _ ?side1 ?side2 A163.out).mono ?_); (case side1 => exact xC ((Kd.R_reads' HO_57.out).2.2)); (case side2 => exact (Kd.R_reads' HO_57.out).2.1); rintro e w170 ⟨v864, v866, rfl, ho0, ho1, hb⟩; refine ⟨_, rfl, ?_⟩; have HO865 := Aside0.mk (Kd.R_lower (Kd.R_new' (Kd.R_new' (Kd.R_new' ho0 (Kd.R_lt (xR HO_55.out))) (Kd.R_lt (xR HO_56.out))) (Kd.R_lt (xR HO_57.out))) (below_size (xB HB.out))); have HO867 := Aside0.mk (Kd.R_lower (Kd.R_new' (Kd.R_new' (Kd.R_new' ho1 (Kd.R_lt (xR HO_55.out))) (Kd.R_lt (xR HO_56.out))) (Kd.R_lt (xR HO_57.out))) (below_size (xB HB.out))); replace HO_55 := Aside0.mk (Kd.R_mono (Kd.R_told (Kd.R_told (Kd.R_old (xR HO_55.out) hb) (Kd.R_base ho0)) (Kd.R_base ho1)) (fun _ h_ => h_.1)); replace HO_56 := Aside0.mk (Kd.R_mono (Kd.R_told (Kd.R_told (Kd.R_old (xR HO_56.out) hb) (Kd.R_base ho0)) (Kd.R_base ho1)) (fun _ h_ => h_.1)); replace HO_57 := Aside0.mk (Kd.R_mono (Kd.R_told (Kd.R_told (Kd.R_old (xR HO_57.out) hb) (Kd.R_base ho0)) (Kd.R_base ho1)) (fun _ h_ => h_.1)); replace HB := Aside0.mk (below_step (xB HB.out) hb); (try clear hb); (try clear hb2); (try clear hk); (try clear hi); (try clear ho0); (try clear ho1); obtain ⟨Ao171, co171, eo171⟩ := Kd.R_slice HO865.out; subst eo171) | (go_at_call 21; (with_reducible refine (laws_iSame.calls kj150 _ _ t861 _ _ t839 true _ ?side1 ?side2 ?side3 ?side4 A165.out).mono ?_); (case side1 => exact xC ((Kd.R_reads' HO865.out).2.2)); (case side2 => exact (Kd.R_reads' HO865.out).2.1); (case side3 => exact xC ((Kd.R_reads' HO_55.out).2.2)); (case side4 => exact (Kd.R_reads' HO_55.out).2.1); rintro e w' ⟨rfl, ⟨nd, rfl⟩⟩; obtain ⟨Ao172, co172, eo172⟩ := Kd.R_slice HO867.out; subst eo172) | (go_at_call 21; (with_reducible refine (laws_iSame.calls kj150 _ _ t862 _ _ t840 true _ ?side1 ?side2 ?side3 ?side4 A167.out).mono ?_); (case side1 => exact xC ((Kd.R_reads' HO867.out).2.2)); (case side2 => exact (Kd.R_reads' HO867.out).2.1); (case side3 => exact xC ((Kd.R_reads' HO_56.out).2.2)); (case side4 => exact (Kd.R_reads' HO_56.out).2.1); rintro e w' ⟨rfl, ⟨nd, rfl⟩⟩))
                 go_meet
                 case rel => exact ⟨_, H', ⟨by have := HJ9.out; have := HJ30.out; have := HJ82.out; have := HJ101.out; have := HJ111.out; have := HJ126.out; have := HJ150.out; first | omega | exact Nat.le_refl _⟩, ⟨xB HB.out⟩⟩
               case rest => as_aux_lemma =>
                clear HC161
                obtain ⟨kq, HA, HJ160, HB⟩ := hcut
                cases kq with
                | zero => exact absurd HA.out (by simp [laws_FnPhasesWork.j10])
                | succ kj160 =>
                 have H := HA.out
                 clear HA
                 simp only [laws_FnPhasesWork.j10] at H
                 replace H := Option.bind_eq_some_iff.mp H
                 obtain ⟨⟨t870, t871, t872, t873⟩, A1730, H⟩ := H
                 (try dsimp only at H)
                 have A173 := Aside0.mk A1730
                 clear A1730
                 replace H := Option.bind_eq_some_iff.mp H
                 obtain ⟨⟨t876, t877⟩, A1740, H⟩ := H
                 (try dsimp only at H)
                 have A174 := Aside0.mk A1740
                 clear A1740
                 replace H := Option.bind_eq_some_iff.mp H
                 obtain ⟨⟨t878, t879⟩, A1750, H⟩ := H
                 (try dsimp only at H)
                 have A175 := Aside0.mk A1750
                 clear A1750
                 replace H := Option.bind_eq_some_iff.mp H
                 obtain ⟨⟨t880, t881⟩, A1760, H⟩ := H
                 (try dsimp only at H)
                 have A176 := Aside0.mk A1760
                 clear A1760
                 replace H := Option.bind_eq_some_iff.mp H
                 obtain ⟨⟨t882, t883⟩, A1770, H⟩ := H
                 (try dsimp only at H)
                 have A177 := Aside0.mk A1770
                 clear A1770
                 replace H := Option.bind_eq_some_iff.mp H
                 obtain ⟨⟨t884, t885, t886⟩, A1780, H⟩ := H
                 (try dsimp only at H)
                 have A178 := Aside0.mk A1780
                 clear A1780
                 replace H := Option.bind_eq_some_iff.mp H
                 obtain ⟨⟨t891, t892⟩, A1790, H⟩ := H
                 (try dsimp only at H)
                 have A179 := Aside0.mk A1790
                 clear A1790
                 replace H := Option.bind_eq_some_iff.mp H
                 obtain ⟨⟨t895, t896⟩, A1800, H⟩ := H
                 (try dsimp only at H)
                 have A180 := Aside0.mk A1800
                 clear A1800
                 replace H := Option.bind_eq_some_iff.mp H
                 obtain ⟨⟨t899, t900, t901⟩, A1810, H⟩ := H
                 (try dsimp only at H)
                 have A181 := Aside0.mk A1810
                 clear A1810
                 replace H := Option.bind_eq_some_iff.mp H
                 obtain ⟨⟨t906, t907⟩, A1820, H⟩ := H
                 (try dsimp only at H)
                 have A182 := Aside0.mk A1820
                 clear A1820
                 replace H := Option.bind_eq_some_iff.mp H
                 obtain ⟨⟨t910, t911⟩, A1830, H⟩ := H
                 (try dsimp only at H)
                 have A183 := Aside0.mk A1830
                 clear A1830
                 by_cases c184 : (t877 == t879) = true
                 rotate_left
                 ·as_aux_lemma =>
                   rw [if_neg c184] at H
                   have c184b0 : (t877 == t879) = false := by simpa using c184
                   (try (have c184b1 : decide (t877 = t879) = false := by simpa using c184))
                   (try (have c184b2 : (t877 == t879) = false := by simpa using c184))
                   (try (have c184b3 : ¬ (t877 = t879) := by simpa using c184))
                   clear c184
                   exact absurd ((Option.some.inj H).trans HRT.out) (by decide)

                 rw [if_pos c184] at H
                 have c184b0 : (t877 == t879) = true := c184
                 (try (have c184b1 : decide (t877 = t879) = true := by simpa using c184))
                 (try (have c184b2 : (t877 == t879) = true := by simpa using c184))
                 clear c184
                 by_cases c185 : t876 = t878
                 rotate_left
                 ·rw [if_neg c185] at H
                  have c185b0 : (t876 == t878) = false := beq_eq_false_iff_ne.mpr c185
                  have c185b1 : (t876 != t878) = true := bne_iff_ne.mpr c185
                  exact absurd ((Option.some.inj H).trans HRT.out) (by decide)
                 rw [if_pos c185] at H
                 have c185b0 : (t876 == t878) = true := beq_iff_eq.mpr c185
                 have c185b1 : (t876 != t878) = false := bne_eq_false_iff_eq.mpr c185
                 clear c185
                 by_cases c186 : (t881 == t883) = true
                 rotate_left
                 ·as_aux_lemma =>
                   rw [if_neg c186] at H
                   have c186b0 : (t881 == t883) = false := by simpa using c186
                   (try (have c186b1 : decide (t881 = t883) = false := by simpa using c186))
                   (try (have c186b2 : (t881 == t883) = false := by simpa using c186))
                   (try (have c186b3 : ¬ (t881 = t883) := by simpa using c186))
                   clear c186
                   exact absurd ((Option.some.inj H).trans HRT.out) (by decide)
                 rw [if_pos c186] at H
                 have c186b0 : (t881 == t883) = true := c186
                 (try (have c186b1 : decide (t881 = t883) = true := by simpa using c186))
                 (try (have c186b2 : (t881 == t883) = true := by simpa using c186))
                 clear c186
                 by_cases c187 : t880 = t882
                 rotate_left
                 ·rw [if_neg c187] at H
                  have c187b0 : (t880 == t882) = false := beq_eq_false_iff_ne.mpr c187
                  have c187b1 : (t880 != t882) = true := bne_iff_ne.mpr c187
                  exact absurd ((Option.some.inj H).trans HRT.out) (by decide)
                 as_aux_lemma =>
                  rw [if_pos c187] at H
                  have c187b0 : (t880 == t882) = true := beq_iff_eq.mpr c187
                  have c187b1 : (t880 != t882) = false := bne_eq_false_iff_eq.mpr c187
                  clear c187
                  by_cases c188 : (t892 == t896) = true
                  rotate_left
                  ·rw [if_neg c188] at H
                   have c188b0 : (t892 == t896) = false := by simpa using c188
                   (try (have c188b1 : decide (t892 = t896) = false := by simpa using c188))
                   (try (have c188b2 : (t892 == t896) = false := by simpa using c188))
                   (try (have c188b3 : ¬ (t892 = t896) := by simpa using c188))
                   clear c188
                   exact absurd ((Option.some.inj H).trans HRT.out) (by decide)
                  rw [if_pos c188] at H
                  have c188b0 : (t892 == t896) = true := c188
                  (try (have c188b1 : decide (t892 = t896) = true := by simpa using c188))
                  (try (have c188b2 : (t892 == t896) = true := by simpa using c188))
                  clear c188
                  obtain ⟨t914, A189, H⟩ := xO H
                  (try dsimp only at H)
                  by_cases c190 : t914 = true
                  rotate_left
                  ·replace c190 := Bool.eq_false_iff.mpr c190
                   subst c190
                   rw [if_neg (show ¬ (false = true) by decide)] at H
                   exact absurd ((Option.some.inj H).trans HRT.out) (by decide)
                  subst c190
                  rw [if_pos rfl] at H
                  by_cases c191 : (t907 == t911) = true
                  rotate_left
                  ·rw [if_neg c191] at H
                   have c191b0 : (t907 == t911) = false := by simpa using c191
                   (try (have c191b1 : decide (t907 = t911) = false := by simpa using c191))
                   (try (have c191b2 : (t907 == t911) = false := by simpa using c191))
                   (try (have c191b3 : ¬ (t907 = t911) := by simpa using c191))
                   clear c191
                   exact absurd ((Option.some.inj H).trans HRT.out) (by decide)
                  rw [if_pos c191] at H
                  have c191b0 : (t907 == t911) = true := c191
                  (try (have c191b1 : decide (t907 = t911) = true := by simpa using c191))
                  (try (have c191b2 : (t907 == t911) = true := by simpa using c191))
                  clear c191
                  obtain ⟨t915, A192, H⟩ := xO H
                  (try dsimp only at H)
                  obtain rfl := Option.some.inj H
                  go_wp2_with (first | (refine xG (some 453) Try.func181 #[.slice A1 l1.length c1] ?_; (with_reducible refine (spec_DrawProductsDirect.calls kj160 _ _ l1 t870 t871 t872 t873 _ ?side1 ?side2 A173.out).mono ?_); (case side1 => exact xC (Kd.C_below HR1.out HB.out)); (case side2 => exact HC1.out); rintro e w193 ⟨v874, rfl, ho0, hb⟩; refine ⟨_, rfl, ?_⟩; have HO875 := Aside0.mk (Kd.R_lower ho0 (below_size (xB HB.out))); replace HB := Aside0.mk (below_step (xB HB.out) hb); (try clear hb); (try clear hb2); (try clear hk); (try clear hi); (try clear ho0); obtain ⟨Ao194, co194, eo194⟩ := Kd.R_slice HO875.out; subst eo194) | (refine xG (some 463) Try.func163 #[.slice Ao194 t870.length co194, .int .i64 t871, .int .i64 t872, .int .i64 t873] ?_; (with_reducible refine (impl_ProductsDirect.calls kj160 _ _ t870 t871 t872 t873 t876 t877 _ ?side1 ?side2 A174.out).mono ?_); (case side1 => exact xC ((Kd.R_reads' HO875.out).2.2)); (case side2 => exact (Kd.R_reads' HO875.out).2.1); rintro e w195 ⟨rfl, hb⟩; refine ⟨_, rfl, ?_⟩; replace HO875 := Aside0.mk (Kd.R_below (xR HO875.out) hb); replace HB := Aside0.mk (below_step (xB HB.out) hb); (try clear hb); (try clear hb2); (try clear hk); (try clear hi)) | (refine xG (some 471) Try.func182 #[.slice Ao194 t870.length co194, .int .i64 t871, .int .i64 t872, .int .i64 t873] ?_; (with_reducible refine (spec_ProductsDirect.calls kj160 _ _ t870 t871 t872 t873 t878 t879 _ ?side1 ?side2 A175.out).mono ?_); (case side1 => exact xC ((Kd.R_reads' HO875.out).2.2)); (case side2 => exact (Kd.R_reads' HO875.out).2.1); rintro e w' ⟨rfl, ⟨nd, rfl⟩⟩; refine ⟨_, rfl, ?_⟩) | (refine xG (some 479) Try.func164 #[.slice Ao194 t870.length co194, .int .i64 t871, .int .i64 t872, .int .i64 t873] ?_; (with_reducible refine (impl_ProductsByPhases.calls kj160 _ _ t870 t871 t872 t873 t880 t881 _ ?side1 ?side2 A176.out).mono ?_); (case side1 => exact xC ((Kd.R_reads' HO875.out).2.2)); (case side2 => exact (Kd.R_reads' HO875.out).2.1); rintro e w196 ⟨rfl, hb⟩; refine ⟨_, rfl, ?_⟩; replace HO875 := Aside0.mk (Kd.R_below (xR HO875.out) hb); replace HB := Aside0.mk (below_step (xB HB.out) hb); (try clear hb); (try clear hb2); (try clear hk); (try clear hi)) | (refine xG (some 487) Try.func183 #[.slice Ao194 t870.length co194, .int .i64 t871, .int .i64 t872, .int .i64 t873] ?_; (with_reducible refine (spec_ProductsByPhases.calls kj160 _ _ t870 t871 t872 t873 t882 t883 _ ?side1 ?side2 A177.out).mono ?_); (case side1 => exact xC ((Kd.R_reads' HO875.out).2.2)); (case side2 => exact (Kd.R_reads' HO875.out).2.1); rintro e w197 ⟨rfl, hb⟩; refine ⟨_, rfl, ?_⟩; replace HO875 := Aside0.mk (Kd.R_below (xR HO875.out) hb); replace HB := Aside0.mk (below_step (xB HB.out) hb); (try clear hb); (try clear hb2); (try clear hk); (try clear hi)) | (refine xG (some 492) Try.func184 #[.slice A1 l1.length c1] ?_; (with_reducible refine (spec_DrawDownFilter.calls kj160 _ _ l1 t884 t885 t886 _ ?side1 ?side2 A178.out).mono ?_); (case side1 => exact xC (Kd.C_below HR1.out HB.out)); (case side2 => exact HC1.out); rintro e w198 ⟨v887, v889, rfl, ho0, ho1, hb⟩; refine ⟨_, rfl, ?_⟩; have HO888 := Aside0.mk (Kd.R_lower (Kd.R_new' ho0 (Kd.R_lt (xR HO875.out))) (below_size (xB HB.out))); have HO890 := Aside0.mk (Kd.R_lower (Kd.R_new' ho1 (Kd.R_lt (xR HO875.out))) (below_size (xB HB.out))); replace HO875 := Aside0.mk (Kd.R_mono (Kd.R_told (Kd.R_told (Kd.R_old (xR HO875.out) hb) (Kd.R_base ho0)) (Kd.R_base ho1)) (fun _ h_ => h_.1)); replace HB := Aside0.mk (below_step (xB HB.out) hb); (try clear hb); (try clear hb2); (try clear hk); (try clear hi); (try clear ho0); (try clear ho1); obtain ⟨Ao199, co199, eo199⟩ := Kd.R_slice HO888.out; subst eo199; obtain ⟨Ao200, co200, eo200⟩ := Kd.R_slice HO890.out; subst eo200) | (refine xG (some 500) Try.func167 #[.slice Ao199 t884.length co199, .slice Ao200 t885.length co200, .int .i64 t886] ?_; (with_reducible refine (impl_DownFilter.calls kj160 _ _ t884 _ _ t885 t886 t891 t892 _ ?side1 ?side2 ?side3 ?side4 A179.out).mono ?_); (case side1 => exact xC ((Kd.R_reads' HO888.out).2.2)); (case side2 => exact (Kd.R_reads' HO888.out).2.1); (case side3 => exact xC ((Kd.R_reads' HO890.out).2.2)); (case side4 => exact (Kd.R_reads' HO890.out).2.1); rintro e w201 ⟨v893, rfl, ho0, hb⟩; refine ⟨_, rfl, ?_⟩; have HO894 := Aside0.mk (Kd.R_lower (Kd.R_new' (Kd.R_new' (Kd.R_new' ho0 (Kd.R_lt (xR HO875.out))) (Kd.R_lt (xR HO888.out))) (Kd.R_lt (xR HO890.out))) (below_size (xB HB.out))); replace HO875 := Aside0.mk (Kd.R_elder' (xR HO875.out) (Kd.R_base ho0) hb); replace HO888 := Aside0.mk (Kd.R_elder' (xR HO888.out) (Kd.R_base ho0) hb); replace HO890 := Aside0.mk (Kd.R_elder' (xR HO890.out) (Kd.R_base ho0) hb); replace HB := Aside0.mk (below_step (xB HB.out) hb); (try clear hb); (try clear hb2); (try clear hk); (try clear hi); (try clear ho0)) | (refine xG (some 507) Try.func185 #[.slice Ao199 t884.length co199, .slice Ao200 t885.length co200, .int .i64 t886] ?_; (with_reducible refine (spec_DownFilter.calls kj160 _ _ t884 _ _ t885 t886 t895 t896 _ ?side1 ?side2 ?side3 ?side4 A180.out).mono ?_); (case side1 => exact xC ((Kd.R_reads' HO888.out).2.2)); (case side2 => exact (Kd.R_reads' HO888.out).2.1); (case side3 => exact xC ((Kd.R_reads' HO890.out).2.2)); (case side4 => exact (Kd.R_reads' HO890.out).2.1); rintro e w202 ⟨v897, rfl, ho0, hb⟩; refine ⟨_, rfl, ?_⟩; have HO898 := Aside0.mk (Kd.R_lower (Kd.R_new' (Kd.R_new' (Kd.R_new' (Kd.R_new' ho0 (Kd.R_lt (xR HO875.out))) (Kd.R_lt (xR HO888.out))) (Kd.R_lt (xR HO890.out))) (Kd.R_lt (xR HO894.out))) (below_size (xB HB.out))); replace HO875 := Aside0.mk (Kd.R_elder' (xR HO875.out) (Kd.R_base ho0) hb); replace HO888 := Aside0.mk (Kd.R_elder' (xR HO888.out) (Kd.R_base ho0) hb); replace HO890 := Aside0.mk (Kd.R_elder' (xR HO890.out) (Kd.R_base ho0) hb); replace HO894 := Aside0.mk (Kd.R_elder' (xR HO894.out) (Kd.R_base ho0) hb); replace HB := Aside0.mk (below_step (xB HB.out) hb); (try clear hb); (try clear hb2); (try clear hk); (try clear hi); (try clear ho0)) | (refine xG (some 512) Try.func186 #[.slice A1 l1.length c1] ?_; (with_reducible refine (spec_DrawUpFilter.calls kj160 _ _ l1 t899 t900 t901 _ ?side1 ?side2 A181.out).mono ?_); (case side1 => exact xC (Kd.C_below HR1.out HB.out)); (case side2 => exact HC1.out); rintro e w203 ⟨v902, v904, rfl, ho0, ho1, hb⟩; refine ⟨_, rfl, ?_⟩; have HO903 := Aside0.mk (Kd.R_lower (Kd.R_new' (Kd.R_new' (Kd.R_new' (Kd.R_new' (Kd.R_new' ho0 (Kd.R_lt (xR HO875.out))) (Kd.R_lt (xR HO888.out))) (Kd.R_lt (xR HO890.out))) (Kd.R_lt (xR HO894.out))) (Kd.R_lt (xR HO898.out))) (below_size (xB HB.out))); have HO905 := Aside0.mk (Kd.R_lower (Kd.R_new' (Kd.R_new' (Kd.R_new' (Kd.R_new' (Kd.R_new' ho1 (Kd.R_lt (xR HO875.out))) (Kd.R_lt (xR HO888.out))) (Kd.R_lt (xR HO890.out))) (Kd.R_lt (xR HO894.out))) (Kd.R_lt (xR HO898.out))) (below_size (xB HB.out))); replace HO875 := Aside0.mk (Kd.R_mono (Kd.R_told (Kd.R_told (Kd.R_old (xR HO875.out) hb) (Kd.R_base ho0)) (Kd.R_base ho1)) (fun _ h_ => h_.1)); replace HO888 := Aside0.mk (Kd.R_mono (Kd.R_told (Kd.R_told (Kd.R_old (xR HO888.out) hb) (Kd.R_base ho0)) (Kd.R_base ho1)) (fun _ h_ => h_.1)); replace HO890 := Aside0.mk (Kd.R_mono (Kd.R_told (Kd.R_told (Kd.R_old (xR HO890.out) hb) (Kd.R_base ho0)) (Kd.R_base ho1)) (fun _ h_ => h_.1)); replace HO894 := Aside0.mk (Kd.R_mono (Kd.R_told (Kd.R_told (Kd.R_old (xR HO894.out) hb) (Kd.R_base ho0)) (Kd.R_base ho1)) (fun _ h_ => h_.1)); replace HO898 := Aside0.mk (Kd.R_mono (Kd.R_told (Kd.R_told (Kd.R_old (xR HO898.out) hb) (Kd.R_base ho0)) (Kd.R_base ho1)) (fun _ h_ => h_.1)); replace HB := Aside0.mk (below_step (xB HB.out) hb); (try clear hb); (try clear hb2); (try clear hk); (try clear hi); (try clear ho0); (try clear ho1); obtain ⟨Ao204, co204, eo204⟩ := Kd.R_slice HO903.out; subst eo204; obtain ⟨Ao205, co205, eo205⟩ := Kd.R_slice HO905.out; subst eo205) | (refine xG (some 520) Try.func165 #[.slice Ao204 t899.length co204, .slice Ao205 t900.length co205, .int .i64 t901] ?_; (with_reducible refine (impl_UpFilter.calls kj160 _ _ t899 _ _ t900 t901 t906 t907 _ ?side1 ?side2 ?side3 ?side4 A182.out).mono ?_); (case side1 => exact xC ((Kd.R_reads' HO903.out).2.2)); (case side2 => exact (Kd.R_reads' HO903.out).2.1); (case side3 => exact xC ((Kd.R_reads' HO905.out).2.2)); (case side4 => exact (Kd.R_reads' HO905.out).2.1); rintro e w206 ⟨v908, rfl, ho0, hb⟩; refine ⟨_, rfl, ?_⟩; have HO909 := Aside0.mk (Kd.R_lower (Kd.R_new' (Kd.R_new' (Kd.R_new' (Kd.R_new' (Kd.R_new' (Kd.R_new' (Kd.R_new' ho0 (Kd.R_lt (xR HO875.out))) (Kd.R_lt (xR HO888.out))) (Kd.R_lt (xR HO890.out))) (Kd.R_lt (xR HO894.out))) (Kd.R_lt (xR HO898.out))) (Kd.R_lt (xR HO903.out))) (Kd.R_lt (xR HO905.out))) (below_size (xB HB.out))); replace HO875 := Aside0.mk (Kd.R_elder' (xR HO875.out) (Kd.R_base ho0) hb); replace HO888 := Aside0.mk (Kd.R_elder' (xR HO888.out) (Kd.R_base ho0) hb); replace HO890 := Aside0.mk (Kd.R_elder' (xR HO890.out) (Kd.R_base ho0) hb); replace HO894 := Aside0.mk (Kd.R_elder' (xR HO894.out) (Kd.R_base ho0) hb); replace HO898 := Aside0.mk (Kd.R_elder' (xR HO898.out) (Kd.R_base ho0) hb); replace HO903 := Aside0.mk (Kd.R_elder' (xR HO903.out) (Kd.R_base ho0) hb); replace HO905 := Aside0.mk (Kd.R_elder' (xR HO905.out) (Kd.R_base ho0) hb); replace HB := Aside0.mk (below_step (xB HB.out) hb); (try clear hb); (try clear hb2); (try clear hk); (try clear hi); (try clear ho0)) | (refine xG (some 527) Try.func187 #[.slice Ao204 t899.length co204, .slice Ao205 t900.length co205, .int .i64 t901] ?_; (with_reducible refine (spec_UpFilter.calls kj160 _ _ t899 _ _ t900 t901 t910 t911 _ ?side1 ?side2 ?side3 ?side4 A183.out).mono ?_); (case side1 => exact xC ((Kd.R_reads' HO903.out).2.2)); (case side2 => exact (Kd.R_reads' HO903.out).2.1); (case side3 => exact xC ((Kd.R_reads' HO905.out).2.2)); (case side4 => exact (Kd.R_reads' HO905.out).2.1); rintro e w207 ⟨v912, rfl, ho0, hb⟩; refine ⟨_, rfl, ?_⟩; have HO913 := Aside0.mk (Kd.R_lower (Kd.R_new' (Kd.R_new' (Kd.R_new' (Kd.R_new' (Kd.R_new' (Kd.R_new' (Kd.R_new' (Kd.R_new' ho0 (Kd.R_lt (xR HO875.out))) (Kd.R_lt (xR HO888.out))) (Kd.R_lt (xR HO890.out))) (Kd.R_lt (xR HO894.out))) (Kd.R_lt (xR HO898.out))) (Kd.R_lt (xR HO903.out))) (Kd.R_lt (xR HO905.out))) (Kd.R_lt (xR HO909.out))) (below_size (xB HB.out))); replace HO875 := Aside0.mk (Kd.R_elder' (xR HO875.out) (Kd.R_base ho0) hb); replace HO888 := Aside0.mk (Kd.R_elder' (xR HO888.out) (Kd.R_base ho0) hb); replace HO890 := Aside0.mk (Kd.R_elder' (xR HO890.out) (Kd.R_base ho0) hb); replace HO894 := Aside0.mk (Kd.R_elder' (xR HO894.out) (Kd.R_base ho0) hb); replace HO898 := Aside0.mk (Kd.R_elder' (xR HO898.out) (Kd.R_base ho0) hb); replace HO903 := Aside0.mk (Kd.R_elder' (xR HO903.out) (Kd.R_base ho0) hb); replace HO905 := Aside0.mk (Kd.R_elder' (xR HO905.out) (Kd.R_base ho0) hb); replace HO909 := Aside0.mk (Kd.R_elder' (xR HO909.out) (Kd.R_base ho0) hb); replace HB := Aside0.mk (below_step (xB HB.out) hb); (try clear hb); (try clear hb2); (try clear hk); (try clear hi); (try clear ho0); obtain ⟨Ao208, co208, eo208⟩ := Kd.R_slice HO894.out; subst eo208; obtain ⟨Ao209, co209, eo209⟩ := Kd.R_slice HO898.out; subst eo209) | (go_at_call 21; (with_reducible refine (laws_iSame.calls kj160 _ _ t891 _ _ t895 true _ ?side1 ?side2 ?side3 ?side4 A189.out).mono ?_); (case side1 => exact xC ((Kd.R_reads' HO894.out).2.2)); (case side2 => exact (Kd.R_reads' HO894.out).2.1); (case side3 => exact xC ((Kd.R_reads' HO898.out).2.2)); (case side4 => exact (Kd.R_reads' HO898.out).2.1); rintro e w' ⟨rfl, ⟨nd, rfl⟩⟩; obtain ⟨Ao210, co210, eo210⟩ := Kd.R_slice HO909.out; subst eo210; obtain ⟨Ao211, co211, eo211⟩ := Kd.R_slice HO913.out; subst eo211) | (go_at_call 21; (with_reducible refine (laws_iSame.calls kj160 _ _ t906 _ _ t910 t915 _ ?side1 ?side2 ?side3 ?side4 A192.out).mono ?_); (case side1 => exact xC ((Kd.R_reads' HO909.out).2.2)); (case side2 => exact (Kd.R_reads' HO909.out).2.1); (case side3 => exact xC ((Kd.R_reads' HO913.out).2.2)); (case side4 => exact (Kd.R_reads' HO913.out).2.1); rintro e w' ⟨rfl, ⟨nd, rfl⟩⟩))
                  go_ret
                  exact ⟨by first | rfl | (simp [errW_none, errW_some] <;> rfl) | (simp [*, errW_none, errW_some] <;> rfl), xB HB.out⟩
/-- THE ONE PURE STATEMENT of laws_FnPhasesWork: yours. -/
def laws_FnPhasesWork.Pure : Prop := ∀ (l0 : List Int) (l1 : List Int), l0.length ≤ maxLen → l0.length * 1 ≤ 140737488351232 → (∀ x ∈ l0, (Lit.int .u8 x).wf = true) → l1.length ≤ maxLen → l1.length * 1 ≤ 140737488351232 → (∀ x ∈ l1, (Lit.int .u8 x).wf = true) → ∃ k, laws_FnPhasesWork.f k l0 l1 = some true
theorem laws_FnPhasesWork.walk (P : laws_FnPhasesWork.Pure) (a0 : Option Addr) (len0 cap0 : Nat) (z0 : List Int) (a1 : Option Addr) (len1 cap1 : Nat) (z1 : List Int) (w : World) (w0 : (a0 = none ∧ len0 = 0 ∧ cap0 = 0 ∧ z0 = []) ∨ ∃ x, a0 = some x ∧ len0 ≤ cap0 ∧ cap0 ≤ maxLen ∧ z0.length = cap0 ∧ (∀ i, i < z0.length → w.cell? (x.add i) = some (.int .u8 (z0.getD i 0))) ∧ ∀ n ∈ z0, (Lit.int .u8 n).wf = true) (y0 : len0 * 1 ≤ 140737488351232) (w1 : (a1 = none ∧ len1 = 0 ∧ cap1 = 0 ∧ z1 = []) ∨ ∃ x, a1 = some x ∧ len1 ≤ cap1 ∧ cap1 ≤ maxLen ∧ z1.length = cap1 ∧ (∀ i, i < z1.length → w.cell? (x.add i) = some (.int .u8 (z1.getD i 0))) ∧ ∀ n ∈ z1, (Lit.int .u8 n).wf = true) (y1 : len1 * 1 ≤ 140737488351232) :
  Calls Try.prog 11 #[.slice a0 len0 cap0, .slice a1 len1 cap1] w fun e w' => e = .returned (.bool true) ∧ Below w.heap.size w w' := by
 obtain ⟨l0, rfl, hr0, hm0, hw0, hc0⟩ := ReadsInt.ofRowC w0
 obtain ⟨l1, rfl, hr1, hm1, hw1, hc1⟩ := ReadsInt.ofRowC w1
 obtain ⟨k, h⟩ := P l0 l1 hm0 y0 hw0 hm1 y1 hw1
 refine (laws_FnPhasesWork.calls k _ _ l0 _ _ l1 true w (Kd.C_of_reads (d := (0 : Int)) (h1 := fun _ => rfl) hr0) hc0 (Kd.C_of_reads (d := (0 : Int)) (h1 := fun _ => rfl) hr1) hc1 h rfl).mono ?_
 rintro e w' ⟨rfl, hd⟩
 exact ⟨rfl, hd⟩

end Go.Proofs.Ytjplcongellcmaa.PFnPhasesWork
