/- What each Go function that the statement FnWordsFit reaches answers, proved call by call. No condition beyond those that the theorems print. (Written by wip/tools/xprint.py of this repo, over the kit's print.) -/
import Derived.Test.YthpdpbjgdndnmaaPFnWordsFitx0
import Derived.Test.YthpdpbjgdndnmaaPFnWordsFitx1
import Derived.Test.YthpdpbjgdndnmaaPFnWordsFitx2
import Derived.Test.YthpdpbjgdndnmaaPFnWordsFitx3
import Derived.Test.YthpdpbjgdndnmaaPFnWordsFitx4
import Derived.Test.YthpdpbjgdndnmaaPFnWordsFitx5
import Derived.Test.YthpdpbjgdndnmaaPFnWordsFitx6
namespace Go.Proofs.Ythpdpbjgdndnmaa.PFnWordsFit
open Go.RowKit Go.Proofs.YthpdpbjgdndnmaaW.PrintWords Go.Proofs.YthpdpbjgdndnmaaW.PrintLast Go.Proofs.YthpdpbjgdndnmaaW.PrintMore
attribute [local go_sem] max2_int min2_int max_two min_two max_three min_three max_four min_four   -- for this text's walks alone
set_option linter.unusedVariables false
set_option linter.unusedSimpArgs false

/-! ### laws_FnWordsFit: function 6 -/
mutual
def laws_FnWordsFit.j0 : Nat → List Int → Int → Int → Bool → Int → Int → Bool → Int → Bool → Option (Bool)
 | 0, _, _, _, _, _, _, _, _, _ => none
 | k + 1, x1, x6, x7, x8, x11, x12, x123, x319000, x319001 => if x123 = true then (some false) else (if x8 = true then ((impl_FitNumber.f x319000 x319001 x7).bind fun bt332 => (if bt332.2 = true then (if bt332.1 = x7 then (if x7 < x11 then (laws_FnWordsFit.j1 k x1 x6 x7 x11 x12 true x319000 x319001) else (if x7 > x12 then (laws_FnWordsFit.j1 k x1 x6 x7 x11 x12 true x319000 x319001) else (if 0 ≤ x319000 then (if (wrap64 ((wrap64 (x12 - x11)) + 1)) = (shl .i64 1 x319000) then (laws_FnWordsFit.j1 k x1 x6 x7 x11 x12 ((wrap64 (x11 + x12)) != (-1)) x319000 x319001) else (laws_FnWordsFit.j1 k x1 x6 x7 x11 x12 true x319000 x319001)) else (none)))) else (laws_FnWordsFit.j1 k x1 x6 x7 x11 x12 true x319000 x319001)) else (laws_FnWordsFit.j1 k x1 x6 x7 x11 x12 true x319000 x319001))) else (laws_FnWordsFit.j2 k x1))
def laws_FnWordsFit.j2 : Nat → List Int → Option (Bool)
 | 0, _ => none
 | k + 1, x1 => (spec_DrawAddIn.f k x1).bind fun bt334 => ((impl_AddIn.f bt334.1 bt334.2.1 bt334.2.2.1 bt334.2.2.2).bind fun bt339 => ((spec_AddIn.f bt334.1 bt334.2.1 bt334.2.2.1 bt334.2.2.2).bind fun bt341 => ((impl_LessIn.f bt334.1 bt334.2.1 bt334.2.2.1 bt334.2.2.2).bind fun bt343 => ((spec_LessIn.f bt334.1 bt334.2.1 bt334.2.2.1 bt334.2.2.2).bind fun bt345 => (if (bt339.2 != bt341.2) = true then (laws_FnWordsFit.j3 k x1 bt334.2.2.1 bt334.2.2.2 bt339.1 bt339.2 true bt334.1 bt334.2.1) else (if bt339.1 = bt341.1 then (if (bt343.2 != bt345.2) = true then (laws_FnWordsFit.j3 k x1 bt334.2.2.1 bt334.2.2.2 bt339.1 bt339.2 true bt334.1 bt334.2.1) else (if bt343.1 = bt345.1 then (laws_FnWordsFit.j3 k x1 bt334.2.2.1 bt334.2.2.2 bt339.1 bt339.2 (bt339.2 != bt343.2) bt334.1 bt334.2.1) else (laws_FnWordsFit.j3 k x1 bt334.2.2.1 bt334.2.2.2 bt339.1 bt339.2 true bt334.1 bt334.2.1))) else (laws_FnWordsFit.j3 k x1 bt334.2.2.1 bt334.2.2.2 bt339.1 bt339.2 true bt334.1 bt334.2.1)))))))
def laws_FnWordsFit.j3 : Nat → List Int → Int → Int → Int → Bool → Bool → Int → Bool → Option (Bool)
 | 0, _, _, _, _, _, _, _, _ => none
 | k + 1, x1, x20, x21, x22, x23, x272, x339000, x339001 => if x272 = true then (some false) else (if x23 = true then ((impl_AddIn.f x339000 x339001 x21 x20).bind fun bt347 => (if bt347.2 = true then (laws_FnWordsFit.j4 k x1 x20 x21 x22 (bt347.1 != x22) x339000 x339001) else (laws_FnWordsFit.j4 k x1 x20 x21 x22 true x339000 x339001))) else (laws_FnWordsFit.j5 k x1))
def laws_FnWordsFit.j5 : Nat → List Int → Option (Bool)
 | 0, _ => none
 | k + 1, x1 => (spec_DrawTimesIn.f k x1).bind fun bt353 => ((impl_TimesIn.f k bt353.1 bt353.2.1 bt353.2.2.1 bt353.2.2.2.1 bt353.2.2.2.2.1 bt353.2.2.2.2.2).bind fun bt360 => ((spec_TimesIn.f k bt353.1 bt353.2.1 bt353.2.2.1 bt353.2.2.2.1 bt353.2.2.2.2.1 bt353.2.2.2.2.2).bind fun bt362 => (if (bt360.2 != bt362.2) = true then (laws_FnWordsFit.j6 k bt353.2.2.1 bt353.2.2.2.1 bt353.2.2.2.2.1 bt353.2.2.2.2.2 bt360.1 bt360.2 true bt353.1 bt353.2.1) else (laws_FnWordsFit.j6 k bt353.2.2.1 bt353.2.2.2.1 bt353.2.2.2.2.1 bt353.2.2.2.2.2 bt360.1 bt360.2 (bt360.1 != bt362.1) bt353.1 bt353.2.1))))
def laws_FnWordsFit.j6 : Nat → Int → Int → Int → Int → Int → Bool → Bool → Int → Bool → Option (Bool)
 | 0, _, _, _, _, _, _, _, _, _ => none
 | k + 1, x37, x38, x39, x40, x41, x42, x352, x360000, x360001 => if x352 = true then (some false) else (if x42 = true then ((impl_RoundShift.f k (wrap64 (x37 * x38)) x39 x40).bind fun bt364 => ((impl_FitNumber.f x360000 x360001 bt364.1).bind fun bt366 => (if bt364.2 = true then (if bt366.2 = true then (some (bt366.1 == x41)) else (some false)) else (some false)))) else (some true))
def laws_FnWordsFit.j4 : Nat → List Int → Int → Int → Int → Bool → Int → Bool → Option (Bool)
 | 0, _, _, _, _, _, _, _ => none
 | k + 1, x1, x20, x21, x22, x287, x339000, x339001 => if x287 = true then (some false) else (if x339001 = true then ((impl_LessIn.f x339000 x339001 x22 x21).bind fun bt349 => (if bt349.2 = true then (if bt349.1 = x20 then (laws_FnWordsFit.j5 k x1) else (some false)) else (some false))) else ((impl_FitNumber.f x339000 x339001 (wrap64 (x20 + x21))).bind fun bt351 => (if bt351.2 = true then (if bt351.1 = x22 then (laws_FnWordsFit.j5 k x1) else (some false)) else (some false))))
def laws_FnWordsFit.j1 : Nat → List Int → Int → Int → Int → Int → Bool → Int → Bool → Option (Bool)
 | 0, _, _, _, _, _, _, _, _ => none
 | k + 1, x1, x6, x7, x11, x12, x163, x319000, x319001 => if x163 = true then (some false) else (if x319001 = true then (if 0 ≤ x319000 then (if (shl .i64 1 x319000) = 0 then (none) else (if (Int.tmod (wrap64 (x6 - x7)) (shl .i64 1 x319000)) = 0 then (laws_FnWordsFit.j2 k x1) else (some false))) else (none)) else (if x6 ≥ x11 then (if x6 ≤ x12 then (if x7 = x6 then (if x6 < x11 then (if x7 = x11 then (if x6 > x12 then (if x7 = x12 then (laws_FnWordsFit.j2 k x1) else (some false)) else (laws_FnWordsFit.j2 k x1)) else (some false)) else (if x6 > x12 then (if x7 = x12 then (laws_FnWordsFit.j2 k x1) else (some false)) else (laws_FnWordsFit.j2 k x1))) else (some false)) else (if x6 < x11 then (if x7 = x11 then (if x6 > x12 then (if x7 = x12 then (laws_FnWordsFit.j2 k x1) else (some false)) else (laws_FnWordsFit.j2 k x1)) else (some false)) else (if x6 > x12 then (if x7 = x12 then (laws_FnWordsFit.j2 k x1) else (some false)) else (laws_FnWordsFit.j2 k x1)))) else (if x6 < x11 then (if x7 = x11 then (if x6 > x12 then (if x7 = x12 then (laws_FnWordsFit.j2 k x1) else (some false)) else (laws_FnWordsFit.j2 k x1)) else (some false)) else (if x6 > x12 then (if x7 = x12 then (laws_FnWordsFit.j2 k x1) else (some false)) else (laws_FnWordsFit.j2 k x1)))))
end
def laws_FnWordsFit.f (k : Nat) (l0 : List Int) (l1 : List Int) : Option (Bool) := (laws_big.f l0 l1).bind fun t314 => (if t314 = true then (some true) else ((spec_DrawFitNumber.f l0).bind fun bt315 => ((impl_FitNumber.f bt315.1 bt315.2.1 bt315.2.2).bind fun bt319 => ((spec_FitNumber.f bt315.1 bt315.2.1 bt315.2.2).bind fun bt321 => ((impl_RangeOf.f bt315.1 bt315.2.1).bind fun bt323 => ((spec_RangeOf.f bt315.1 bt315.2.1).bind fun bt326 => (if (bt319.2 != bt321.2) = true then (laws_FnWordsFit.j0 k l1 bt315.2.2 bt319.1 bt319.2 bt323.1 bt323.2.1 true bt315.1 bt315.2.1) else (if bt319.1 = bt321.1 then (if (bt323.2.2 != bt326.2.2) = true then (laws_FnWordsFit.j0 k l1 bt315.2.2 bt319.1 bt319.2 bt323.1 bt323.2.1 true bt315.1 bt315.2.1) else (if bt323.1 = bt326.1 then (if bt323.2.1 = bt326.2.1 then ((impl_IsWord.f bt315.1 bt315.2.1).bind fun t329 => (if (bt323.2.2 != t329) = true then (laws_FnWordsFit.j0 k l1 bt315.2.2 bt319.1 bt319.2 bt323.1 bt323.2.1 true bt315.1 bt315.2.1) else ((impl_IsWord.f bt315.1 bt315.2.1).bind fun t330 => ((spec_IsWord.f bt315.1 bt315.2.1).bind fun t331 => (if (t330 != t331) = true then (laws_FnWordsFit.j0 k l1 bt315.2.2 bt319.1 bt319.2 bt323.1 bt323.2.1 true bt315.1 bt315.2.1) else (if bt319.2 = true then (laws_FnWordsFit.j0 k l1 bt315.2.2 bt319.1 bt319.2 bt323.1 bt323.2.1 (!bt323.2.2) bt315.1 bt315.2.1) else (laws_FnWordsFit.j0 k l1 bt315.2.2 bt319.1 bt319.2 bt323.1 bt323.2.1 false bt315.1 bt315.2.1))))))) else (laws_FnWordsFit.j0 k l1 bt315.2.2 bt319.1 bt319.2 bt323.1 bt323.2.1 true bt315.1 bt315.2.1)) else (laws_FnWordsFit.j0 k l1 bt315.2.2 bt319.1 bt319.2 bt323.1 bt323.2.1 true bt315.1 bt315.2.1))) else (laws_FnWordsFit.j0 k l1 bt315.2.2 bt319.1 bt319.2 bt323.1 bt323.2.1 true bt315.1 bt315.2.1)))))))))
theorem laws_FnWordsFit.mono_l : ∀ k, (∀ y0 y1 y2 y3 y4 y5 y6 y7 y8, LeO (laws_FnWordsFit.j0 k y0 y1 y2 y3 y4 y5 y6 y7 y8) (laws_FnWordsFit.j0 (k + 1) y0 y1 y2 y3 y4 y5 y6 y7 y8)) ∧ (∀ y0, LeO (laws_FnWordsFit.j2 k y0) (laws_FnWordsFit.j2 (k + 1) y0)) ∧ (∀ y0 y1 y2 y3 y4 y5 y6 y7, LeO (laws_FnWordsFit.j3 k y0 y1 y2 y3 y4 y5 y6 y7) (laws_FnWordsFit.j3 (k + 1) y0 y1 y2 y3 y4 y5 y6 y7)) ∧ (∀ y0, LeO (laws_FnWordsFit.j5 k y0) (laws_FnWordsFit.j5 (k + 1) y0)) ∧ (∀ y0 y1 y2 y3 y4 y5 y6 y7 y8, LeO (laws_FnWordsFit.j6 k y0 y1 y2 y3 y4 y5 y6 y7 y8) (laws_FnWordsFit.j6 (k + 1) y0 y1 y2 y3 y4 y5 y6 y7 y8)) ∧ (∀ y0 y1 y2 y3 y4 y5 y6, LeO (laws_FnWordsFit.j4 k y0 y1 y2 y3 y4 y5 y6) (laws_FnWordsFit.j4 (k + 1) y0 y1 y2 y3 y4 y5 y6)) ∧ (∀ y0 y1 y2 y3 y4 y5 y6 y7, LeO (laws_FnWordsFit.j1 k y0 y1 y2 y3 y4 y5 y6 y7) (laws_FnWordsFit.j1 (k + 1) y0 y1 y2 y3 y4 y5 y6 y7))
 | 0 => ⟨fun _ _ _ _ _ _ _ _ _ r h => by simp [laws_FnWordsFit.j0] at h, fun _ r h => by simp [laws_FnWordsFit.j2] at h, fun _ _ _ _ _ _ _ _ r h => by simp [laws_FnWordsFit.j3] at h, fun _ r h => by simp [laws_FnWordsFit.j5] at h, fun _ _ _ _ _ _ _ _ _ r h => by simp [laws_FnWordsFit.j6] at h, fun _ _ _ _ _ _ _ r h => by simp [laws_FnWordsFit.j4] at h, fun _ _ _ _ _ _ _ _ r h => by simp [laws_FnWordsFit.j1] at h⟩
 | k + 1 => by
  obtain ⟨ih0, ih1, ih2, ih3, ih4, ih5, ih6⟩ := laws_FnWordsFit.mono_l k
  refine ⟨?_, ?_, ?_, ?_, ?_, ?_, ?_⟩
  ·intro y0 y1 y2 y3 y4 y5 y6 y7 y8
   unfold laws_FnWordsFit.j0
   repeat' first
   | (with_reducible exact ih0 _ _ _ _ _ _ _ _ _)
   | (with_reducible exact ih1 _)
   | (with_reducible exact ih2 _ _ _ _ _ _ _ _)
   | (with_reducible exact ih3 _)
   | (with_reducible exact ih4 _ _ _ _ _ _ _ _ _)
   | (with_reducible exact ih5 _ _ _ _ _ _ _)
   | (with_reducible exact ih6 _ _ _ _ _ _ _ _)
   | (with_reducible exact impl_RoundShift.mono _ _ _ _)
   | (with_reducible exact impl_TimesIn.mono _ _ _ _ _ _ _)
   | (with_reducible exact spec_DrawAddIn.mono _ _)
   | (with_reducible exact spec_DrawTimesIn.mono _ _)
   | (with_reducible exact spec_TimesIn.mono _ _ _ _ _ _ _)
   | (with_reducible exact LeO.refl _)
   | (with_reducible exact LeO.none _)
   | (with_reducible refine LeO.ite ?_ ?_)
   | (with_reducible refine LeO.bind ?_ (fun _ => ?_))
   | exact ih0 _ _ _ _ _ _ _ _ _
   | exact ih1 _
   | exact ih2 _ _ _ _ _ _ _ _
   | exact ih3 _
   | exact ih4 _ _ _ _ _ _ _ _ _
   | exact ih5 _ _ _ _ _ _ _
   | exact ih6 _ _ _ _ _ _ _ _
   | exact impl_RoundShift.mono _ _ _ _
   | exact impl_TimesIn.mono _ _ _ _ _ _ _
   | exact spec_DrawAddIn.mono _ _
   | exact spec_DrawTimesIn.mono _ _
   | exact spec_TimesIn.mono _ _ _ _ _ _ _
   | exact LeO.none _
   | refine LeO.ite ?_ ?_
   | refine LeO.bind ?_ (fun _ => ?_)
  ·intro y0
   unfold laws_FnWordsFit.j2
   repeat' first
   | (with_reducible exact ih0 _ _ _ _ _ _ _ _ _)
   | (with_reducible exact ih1 _)
   | (with_reducible exact ih2 _ _ _ _ _ _ _ _)
   | (with_reducible exact ih3 _)
   | (with_reducible exact ih4 _ _ _ _ _ _ _ _ _)
   | (with_reducible exact ih5 _ _ _ _ _ _ _)
   | (with_reducible exact ih6 _ _ _ _ _ _ _ _)
   | (with_reducible exact impl_RoundShift.mono _ _ _ _)
   | (with_reducible exact impl_TimesIn.mono _ _ _ _ _ _ _)
   | (with_reducible exact spec_DrawAddIn.mono _ _)
   | (with_reducible exact spec_DrawTimesIn.mono _ _)
   | (with_reducible exact spec_TimesIn.mono _ _ _ _ _ _ _)
   | (with_reducible exact LeO.refl _)
   | (with_reducible exact LeO.none _)
   | (with_reducible refine LeO.ite ?_ ?_)
   | (with_reducible refine LeO.bind ?_ (fun _ => ?_))
   | exact ih0 _ _ _ _ _ _ _ _ _
   | exact ih1 _
   | exact ih2 _ _ _ _ _ _ _ _
   | exact ih3 _
   | exact ih4 _ _ _ _ _ _ _ _ _
   | exact ih5 _ _ _ _ _ _ _
   | exact ih6 _ _ _ _ _ _ _ _
   | exact impl_RoundShift.mono _ _ _ _
   | exact impl_TimesIn.mono _ _ _ _ _ _ _
   | exact spec_DrawAddIn.mono _ _
   | exact spec_DrawTimesIn.mono _ _
   | exact spec_TimesIn.mono _ _ _ _ _ _ _
   | exact LeO.none _
   | refine LeO.ite ?_ ?_
   | refine LeO.bind ?_ (fun _ => ?_)
  ·intro y0 y1 y2 y3 y4 y5 y6 y7
   unfold laws_FnWordsFit.j3
   repeat' first
   | (with_reducible exact ih0 _ _ _ _ _ _ _ _ _)
   | (with_reducible exact ih1 _)
   | (with_reducible exact ih2 _ _ _ _ _ _ _ _)
   | (with_reducible exact ih3 _)
   | (with_reducible exact ih4 _ _ _ _ _ _ _ _ _)
   | (with_reducible exact ih5 _ _ _ _ _ _ _)
   | (with_reducible exact ih6 _ _ _ _ _ _ _ _)
   | (with_reducible exact impl_RoundShift.mono _ _ _ _)
   | (with_reducible exact impl_TimesIn.mono _ _ _ _ _ _ _)
   | (with_reducible exact spec_DrawAddIn.mono _ _)
   | (with_reducible exact spec_DrawTimesIn.mono _ _)
   | (with_reducible exact spec_TimesIn.mono _ _ _ _ _ _ _)
   | (with_reducible exact LeO.refl _)
   | (with_reducible exact LeO.none _)
   | (with_reducible refine LeO.ite ?_ ?_)
   | (with_reducible refine LeO.bind ?_ (fun _ => ?_))
   | exact ih0 _ _ _ _ _ _ _ _ _
   | exact ih1 _
   | exact ih2 _ _ _ _ _ _ _ _
   | exact ih3 _
   | exact ih4 _ _ _ _ _ _ _ _ _
   | exact ih5 _ _ _ _ _ _ _
   | exact ih6 _ _ _ _ _ _ _ _
   | exact impl_RoundShift.mono _ _ _ _
   | exact impl_TimesIn.mono _ _ _ _ _ _ _
   | exact spec_DrawAddIn.mono _ _
   | exact spec_DrawTimesIn.mono _ _
   | exact spec_TimesIn.mono _ _ _ _ _ _ _
   | exact LeO.none _
   | refine LeO.ite ?_ ?_
   | refine LeO.bind ?_ (fun _ => ?_)
  ·intro y0
   unfold laws_FnWordsFit.j5
   repeat' first
   | (with_reducible exact ih0 _ _ _ _ _ _ _ _ _)
   | (with_reducible exact ih1 _)
   | (with_reducible exact ih2 _ _ _ _ _ _ _ _)
   | (with_reducible exact ih3 _)
   | (with_reducible exact ih4 _ _ _ _ _ _ _ _ _)
   | (with_reducible exact ih5 _ _ _ _ _ _ _)
   | (with_reducible exact ih6 _ _ _ _ _ _ _ _)
   | (with_reducible exact impl_RoundShift.mono _ _ _ _)
   | (with_reducible exact impl_TimesIn.mono _ _ _ _ _ _ _)
   | (with_reducible exact spec_DrawAddIn.mono _ _)
   | (with_reducible exact spec_DrawTimesIn.mono _ _)
   | (with_reducible exact spec_TimesIn.mono _ _ _ _ _ _ _)
   | (with_reducible exact LeO.refl _)
   | (with_reducible exact LeO.none _)
   | (with_reducible refine LeO.ite ?_ ?_)
   | (with_reducible refine LeO.bind ?_ (fun _ => ?_))
   | exact ih0 _ _ _ _ _ _ _ _ _
   | exact ih1 _
   | exact ih2 _ _ _ _ _ _ _ _
   | exact ih3 _
   | exact ih4 _ _ _ _ _ _ _ _ _
   | exact ih5 _ _ _ _ _ _ _
   | exact ih6 _ _ _ _ _ _ _ _
   | exact impl_RoundShift.mono _ _ _ _
   | exact impl_TimesIn.mono _ _ _ _ _ _ _
   | exact spec_DrawAddIn.mono _ _
   | exact spec_DrawTimesIn.mono _ _
   | exact spec_TimesIn.mono _ _ _ _ _ _ _
   | exact LeO.none _
   | refine LeO.ite ?_ ?_
   | refine LeO.bind ?_ (fun _ => ?_)
  ·intro y0 y1 y2 y3 y4 y5 y6 y7 y8
   unfold laws_FnWordsFit.j6
   repeat' first
   | (with_reducible exact ih0 _ _ _ _ _ _ _ _ _)
   | (with_reducible exact ih1 _)
   | (with_reducible exact ih2 _ _ _ _ _ _ _ _)
   | (with_reducible exact ih3 _)
   | (with_reducible exact ih4 _ _ _ _ _ _ _ _ _)
   | (with_reducible exact ih5 _ _ _ _ _ _ _)
   | (with_reducible exact ih6 _ _ _ _ _ _ _ _)
   | (with_reducible exact impl_RoundShift.mono _ _ _ _)
   | (with_reducible exact impl_TimesIn.mono _ _ _ _ _ _ _)
   | (with_reducible exact spec_DrawAddIn.mono _ _)
   | (with_reducible exact spec_DrawTimesIn.mono _ _)
   | (with_reducible exact spec_TimesIn.mono _ _ _ _ _ _ _)
   | (with_reducible exact LeO.refl _)
   | (with_reducible exact LeO.none _)
   | (with_reducible refine LeO.ite ?_ ?_)
   | (with_reducible refine LeO.bind ?_ (fun _ => ?_))
   | exact ih0 _ _ _ _ _ _ _ _ _
   | exact ih1 _
   | exact ih2 _ _ _ _ _ _ _ _
   | exact ih3 _
   | exact ih4 _ _ _ _ _ _ _ _ _
   | exact ih5 _ _ _ _ _ _ _
   | exact ih6 _ _ _ _ _ _ _ _
   | exact impl_RoundShift.mono _ _ _ _
   | exact impl_TimesIn.mono _ _ _ _ _ _ _
   | exact spec_DrawAddIn.mono _ _
   | exact spec_DrawTimesIn.mono _ _
   | exact spec_TimesIn.mono _ _ _ _ _ _ _
   | exact LeO.none _
   | refine LeO.ite ?_ ?_
   | refine LeO.bind ?_ (fun _ => ?_)
  ·intro y0 y1 y2 y3 y4 y5 y6
   unfold laws_FnWordsFit.j4
   repeat' first
   | (with_reducible exact ih0 _ _ _ _ _ _ _ _ _)
   | (with_reducible exact ih1 _)
   | (with_reducible exact ih2 _ _ _ _ _ _ _ _)
   | (with_reducible exact ih3 _)
   | (with_reducible exact ih4 _ _ _ _ _ _ _ _ _)
   | (with_reducible exact ih5 _ _ _ _ _ _ _)
   | (with_reducible exact ih6 _ _ _ _ _ _ _ _)
   | (with_reducible exact impl_RoundShift.mono _ _ _ _)
   | (with_reducible exact impl_TimesIn.mono _ _ _ _ _ _ _)
   | (with_reducible exact spec_DrawAddIn.mono _ _)
   | (with_reducible exact spec_DrawTimesIn.mono _ _)
   | (with_reducible exact spec_TimesIn.mono _ _ _ _ _ _ _)
   | (with_reducible exact LeO.refl _)
   | (with_reducible exact LeO.none _)
   | (with_reducible refine LeO.ite ?_ ?_)
   | (with_reducible refine LeO.bind ?_ (fun _ => ?_))
   | exact ih0 _ _ _ _ _ _ _ _ _
   | exact ih1 _
   | exact ih2 _ _ _ _ _ _ _ _
   | exact ih3 _
   | exact ih4 _ _ _ _ _ _ _ _ _
   | exact ih5 _ _ _ _ _ _ _
   | exact ih6 _ _ _ _ _ _ _ _
   | exact impl_RoundShift.mono _ _ _ _
   | exact impl_TimesIn.mono _ _ _ _ _ _ _
   | exact spec_DrawAddIn.mono _ _
   | exact spec_DrawTimesIn.mono _ _
   | exact spec_TimesIn.mono _ _ _ _ _ _ _
   | exact LeO.none _
   | refine LeO.ite ?_ ?_
   | refine LeO.bind ?_ (fun _ => ?_)
  ·intro y0 y1 y2 y3 y4 y5 y6 y7
   unfold laws_FnWordsFit.j1
   repeat' first
   | (with_reducible exact ih0 _ _ _ _ _ _ _ _ _)
   | (with_reducible exact ih1 _)
   | (with_reducible exact ih2 _ _ _ _ _ _ _ _)
   | (with_reducible exact ih3 _)
   | (with_reducible exact ih4 _ _ _ _ _ _ _ _ _)
   | (with_reducible exact ih5 _ _ _ _ _ _ _)
   | (with_reducible exact ih6 _ _ _ _ _ _ _ _)
   | (with_reducible exact impl_RoundShift.mono _ _ _ _)
   | (with_reducible exact impl_TimesIn.mono _ _ _ _ _ _ _)
   | (with_reducible exact spec_DrawAddIn.mono _ _)
   | (with_reducible exact spec_DrawTimesIn.mono _ _)
   | (with_reducible exact spec_TimesIn.mono _ _ _ _ _ _ _)
   | (with_reducible exact LeO.refl _)
   | (with_reducible exact LeO.none _)
   | (with_reducible refine LeO.ite ?_ ?_)
   | (with_reducible refine LeO.bind ?_ (fun _ => ?_))
   | exact ih0 _ _ _ _ _ _ _ _ _
   | exact ih1 _
   | exact ih2 _ _ _ _ _ _ _ _
   | exact ih3 _
   | exact ih4 _ _ _ _ _ _ _ _ _
   | exact ih5 _ _ _ _ _ _ _
   | exact ih6 _ _ _ _ _ _ _ _
   | exact impl_RoundShift.mono _ _ _ _
   | exact impl_TimesIn.mono _ _ _ _ _ _ _
   | exact spec_DrawAddIn.mono _ _
   | exact spec_DrawTimesIn.mono _ _
   | exact spec_TimesIn.mono _ _ _ _ _ _ _
   | exact LeO.none _
   | refine LeO.ite ?_ ?_
   | refine LeO.bind ?_ (fun _ => ?_)
theorem laws_FnWordsFit.mono : ∀ a0 a1 k, LeO (laws_FnWordsFit.f k a0 a1) (laws_FnWordsFit.f (k + 1) a0 a1) := by
 intro a0 a1 k
 obtain ⟨ih0, ih1, ih2, ih3, ih4, ih5, ih6⟩ := laws_FnWordsFit.mono_l k
 unfold laws_FnWordsFit.f
 repeat' first
   | (with_reducible exact ih0 _ _ _ _ _ _ _ _ _)
   | (with_reducible exact ih1 _)
   | (with_reducible exact ih2 _ _ _ _ _ _ _ _)
   | (with_reducible exact ih3 _)
   | (with_reducible exact ih4 _ _ _ _ _ _ _ _ _)
   | (with_reducible exact ih5 _ _ _ _ _ _ _)
   | (with_reducible exact ih6 _ _ _ _ _ _ _ _)
   | (with_reducible exact impl_RoundShift.mono _ _ _ _)
   | (with_reducible exact impl_TimesIn.mono _ _ _ _ _ _ _)
   | (with_reducible exact spec_DrawAddIn.mono _ _)
   | (with_reducible exact spec_DrawTimesIn.mono _ _)
   | (with_reducible exact spec_TimesIn.mono _ _ _ _ _ _ _)
   | (with_reducible exact LeO.refl _)
   | (with_reducible exact LeO.none _)
   | (with_reducible refine LeO.ite ?_ ?_)
   | (with_reducible refine LeO.bind ?_ (fun _ => ?_))
   | exact ih0 _ _ _ _ _ _ _ _ _
   | exact ih1 _
   | exact ih2 _ _ _ _ _ _ _ _
   | exact ih3 _
   | exact ih4 _ _ _ _ _ _ _ _ _
   | exact ih5 _ _ _ _ _ _ _
   | exact ih6 _ _ _ _ _ _ _ _
   | exact impl_RoundShift.mono _ _ _ _
   | exact impl_TimesIn.mono _ _ _ _ _ _ _
   | exact spec_DrawAddIn.mono _ _
   | exact spec_DrawTimesIn.mono _ _
   | exact spec_TimesIn.mono _ _ _ _ _ _ _
   | exact LeO.none _
   | refine LeO.ite ?_ ?_
   | refine LeO.bind ?_ (fun _ => ?_)
def laws_FnWordsFit.T8 : Bool × List (List Nat × List Nat) := (true, [([], []), ([], []), ([0, 1], [0, 1]), ([2], [2]), ([3], [3]), ([3], [3]), ([4, 5, 3], [3, 4, 5]), ([3, 6], [3, 6]), ([7, 3], [7]), ([8], [8]), ([8], [8]), ([9, 10, 8], [8, 9, 10]), ([8, 11], [8, 11]), ([12, 8], [12]), ([13], [13]), ([13], [13]), ([14, 15, 13], [13, 14, 15]), ([13, 16], [13, 16]), ([17, 13], [17]), ([18], [18]), ([18], [18]), ([19, 20, 18], [18, 19, 20]), ([18, 21], [18, 21]), ([22, 18], [22]), ([23], [23]), ([23], [23]), ([25, 23, 23], [23, 25]), ([24, 26, 23], [23, 24, 26]), ([23, 27], [23, 27]), ([28, 26], [28]), ([29], [29]), ([30, 29, 29], [29, 30]), ([29], [29]), ([32, 31, 29], [29, 32]), ([31, 33, 29], [29, 31, 33]), ([29, 34], [29, 34]), ([35, 33], [35]), ([36], [36]), ([37, 36, 36], [36, 37]), ([38], [38]), ([39, 38], [38, 39]), ([38, 40, 36], [36, 38, 40]), ([36, 41], [36, 41])])
def laws_FnWordsFit.B8 : List Nat := [0, 0, 3, 7, 15, 15, 63, 127, 255, 511, 511, 2047, 4095, 8191, 16383, 16383, 65535, 131071, 262143, 524287, 524287, 2097151, 4194303, 8388607, 16777215, 16777215, 50331647, 134217727, 268435455, 536870911, 1073741823, 2147483647, 1073741823, 8589934591, 17179869183, 34359738367, 68719476735, 137438953471, 274877906943, 549755813887, 1099511627775, 2199023255551, 4398046511103]
theorem laws_FnWordsFit.tab8 : rtab .any (opsOf Try.f6 8) = laws_FnWordsFit.T8 := by kernel_rfl
theorem laws_FnWordsFit.bits8 : waitsOk laws_FnWordsFit.T8.2 laws_FnWordsFit.B8 = true := by kernel_rfl
set_option maxHeartbeats 8000000 in
set_option maxRecDepth 100000 in
theorem laws_FnWordsFit.calls (k : Nat) (A0 : Option Addr) (c0 : Nat) (l0 : List Int) (A1 : Option Addr) (c1 : Nat) (l1 : List Int) (r : Bool) (w : World) (hr0 : Kd.C (Kd.int .u8) w A0 l0.length l0) (hc0 : l0.length ≤ c0) (hr1 : Kd.C (Kd.int .u8) w A1 l1.length l1) (hc1 : l1.length ≤ c1) (h : laws_FnWordsFit.f k l0 l1 = some r) (hr_ : r = true) :
  Calls Try.prog 6 #[.slice A0 l0.length c0, .slice A1 l1.length c1] w fun e w' => e = .returned (.bool r) ∧ Below w.heap.size w w' := by
 have HRT := Aside0.mk hr_
 clear hr_
 have hu29 := Try.underlying29
 have HR0 := Aside0.mk hr0
 have HC0 := Aside0.mk hc0
 clear hr0 hc0
 have HR1 := Aside0.mk hr1
 have HC1 := Aside0.mk hc1
 clear hr1 hc1
 have HB := Aside0.mk (Below.refl w.heap.size w)
 have H : ((laws_big.f l0 l1).bind fun t314 => (if t314 = true then (some true) else ((spec_DrawFitNumber.f l0).bind fun bt315 => ((impl_FitNumber.f bt315.1 bt315.2.1 bt315.2.2).bind fun bt319 => ((spec_FitNumber.f bt315.1 bt315.2.1 bt315.2.2).bind fun bt321 => ((impl_RangeOf.f bt315.1 bt315.2.1).bind fun bt323 => ((spec_RangeOf.f bt315.1 bt315.2.1).bind fun bt326 => (if (bt319.2 != bt321.2) = true then (laws_FnWordsFit.j0 k l1 bt315.2.2 bt319.1 bt319.2 bt323.1 bt323.2.1 true bt315.1 bt315.2.1) else (if bt319.1 = bt321.1 then (if (bt323.2.2 != bt326.2.2) = true then (laws_FnWordsFit.j0 k l1 bt315.2.2 bt319.1 bt319.2 bt323.1 bt323.2.1 true bt315.1 bt315.2.1) else (if bt323.1 = bt326.1 then (if bt323.2.1 = bt326.2.1 then ((impl_IsWord.f bt315.1 bt315.2.1).bind fun t329 => (if (bt323.2.2 != t329) = true then (laws_FnWordsFit.j0 k l1 bt315.2.2 bt319.1 bt319.2 bt323.1 bt323.2.1 true bt315.1 bt315.2.1) else ((impl_IsWord.f bt315.1 bt315.2.1).bind fun t330 => ((spec_IsWord.f bt315.1 bt315.2.1).bind fun t331 => (if (t330 != t331) = true then (laws_FnWordsFit.j0 k l1 bt315.2.2 bt319.1 bt319.2 bt323.1 bt323.2.1 true bt315.1 bt315.2.1) else (if bt319.2 = true then (laws_FnWordsFit.j0 k l1 bt315.2.2 bt319.1 bt319.2 bt323.1 bt323.2.1 (!bt323.2.2) bt315.1 bt315.2.1) else (laws_FnWordsFit.j0 k l1 bt315.2.2 bt319.1 bt319.2 bt323.1 bt323.2.1 false bt315.1 bt315.2.1))))))) else (laws_FnWordsFit.j0 k l1 bt315.2.2 bt319.1 bt319.2 bt323.1 bt323.2.1 true bt315.1 bt315.2.1)) else (laws_FnWordsFit.j0 k l1 bt315.2.2 bt319.1 bt319.2 bt323.1 bt323.2.1 true bt315.1 bt315.2.1))) else (laws_FnWordsFit.j0 k l1 bt315.2.2 bt319.1 bt319.2 bt323.1 bt323.2.1 true bt315.1 bt315.2.1)))))))))) = some r := h
 clear h
 replace H := Option.bind_eq_some_iff.mp H
 obtain ⟨t314, A30, H⟩ := H
 (try dsimp only at H)
 have A3 := Aside0.mk A30
 clear A30
 by_cases c4 : t314 = true
 ·as_aux_lemma =>
   subst c4
   have H1 := H
   rw [if_pos rfl] at H1
   clear H
   have H := H1
   clear H1
   obtain rfl := Option.some.inj H
   go_enter Try.func6, Try.ntmps6
   go_wp2_with (first | ((with_reducible refine gate_callee (f := 26) rfl ?_); refine goesL_ (some 51) rfl rfl Try.func26 (by kernel_rfl) rfl #[.slice A0 l0.length c0, .slice A1 l1.length c1] rfl (by (try simp only [List.map_toArray, List.map_cons, List.map_nil]); first | done | rfl | (simp only [List.length_drop, List.length_take]; rfl)) ?_; (with_reducible refine (laws_big.calls _ _ l0 _ _ l1 true _ ?side1 ?side2 ?side3 ?side4 A3.out).mono ?_); (case side1 => repeat (first | exact HR0.out | (with_reducible refine Kd.C_alloc ?_ _) | (with_reducible refine Kd.C_drewN ?_ _) | (with_reducible refine Kd.C_drew ?_))); (case side2 => exact HC0.out); (case side3 => repeat (first | exact HR1.out | (with_reducible refine Kd.C_alloc ?_ _) | (with_reducible refine Kd.C_drewN ?_ _) | (with_reducible refine Kd.C_drew ?_))); (case side4 => exact HC1.out); rintro e w' ⟨rfl, ⟨nd, rfl⟩⟩; refine ⟨_, rfl, ?_⟩))
   go_ret
   exact ⟨by first | rfl | (simp [errW_none, errW_some] <;> rfl) | (simp [*, errW_none, errW_some] <;> rfl), by repeat (first | (with_reducible first | exact HB.out | apply below_alloc | apply pw_below_drewN | apply below_drew1) | exact HB.out)⟩
 ·replace c4 := Bool.eq_false_iff.mpr c4
  subst c4
  have H1 := H
  rw [if_neg (show ¬ (false = true) by decide)] at H1
  clear H
  have H := H1
  clear H1
  replace H := Option.bind_eq_some_iff.mp H
  obtain ⟨⟨t315, t316, t317⟩, A50, H⟩ := H
  (try dsimp only at H)
  have A5 := Aside0.mk A50
  clear A50
  replace H := Option.bind_eq_some_iff.mp H
  obtain ⟨⟨t319, t320⟩, A60, H⟩ := H
  (try dsimp only at H)
  have A6 := Aside0.mk A60
  clear A60
  replace H := Option.bind_eq_some_iff.mp H
  obtain ⟨⟨t321, t322⟩, A70, H⟩ := H
  (try dsimp only at H)
  have A7 := Aside0.mk A70
  clear A70
  replace H := Option.bind_eq_some_iff.mp H
  obtain ⟨⟨t323, t324, t325⟩, A80, H⟩ := H
  (try dsimp only at H)
  have A8 := Aside0.mk A80
  clear A80
  replace H := Option.bind_eq_some_iff.mp H
  obtain ⟨⟨t326, t327, t328⟩, A90, H⟩ := H
  (try dsimp only at H)
  have A9 := Aside0.mk A90
  clear A90
  have HC10 := Aside0.mk H
  clear H
  go_enter Try.func6, Try.ntmps6
  go_upto_region 8 with (first | ((with_reducible refine gate_callee (f := 26) rfl ?_); refine goesL_ (some 51) rfl rfl Try.func26 (by kernel_rfl) rfl #[.slice A0 l0.length c0, .slice A1 l1.length c1] rfl (by (try simp only [List.map_toArray, List.map_cons, List.map_nil]); first | done | rfl | (simp only [List.length_drop, List.length_take]; rfl)) ?_; (with_reducible refine (laws_big.calls _ _ l0 _ _ l1 false _ ?side1 ?side2 ?side3 ?side4 A3.out).mono ?_); (case side1 => repeat (first | exact HR0.out | (with_reducible refine Kd.C_alloc ?_ _) | (with_reducible refine Kd.C_drewN ?_ _) | (with_reducible refine Kd.C_drew ?_))); (case side2 => exact HC0.out); (case side3 => repeat (first | exact HR1.out | (with_reducible refine Kd.C_alloc ?_ _) | (with_reducible refine Kd.C_drewN ?_ _) | (with_reducible refine Kd.C_drew ?_))); (case side4 => exact HC1.out); rintro e w' ⟨rfl, ⟨nd, rfl⟩⟩; refine ⟨_, rfl, ?_⟩) | ((with_reducible refine gate_callee (f := 27) rfl ?_); refine goesL_ (some 54) rfl rfl Try.func27 (by kernel_rfl) rfl #[.slice A0 l0.length c0] rfl (by (try simp only [List.map_toArray, List.map_cons, List.map_nil]); first | done | rfl | (simp only [List.length_drop, List.length_take]; rfl)) ?_; (with_reducible refine (spec_DrawFitNumber.calls _ _ l0 t315 t316 t317 _ ?side1 ?side2 A5.out).mono ?_); (case side1 => repeat (first | exact HR0.out | (with_reducible refine Kd.C_alloc ?_ _) | (with_reducible refine Kd.C_drewN ?_ _) | (with_reducible refine Kd.C_drew ?_))); (case side2 => exact HC0.out); rintro e w11 ⟨rfl, hb⟩; refine ⟨_, rfl, ?_⟩; have n0_ := Aside0.mk (below_step (by repeat (first | (with_reducible first | exact HB.out | apply below_alloc | apply pw_below_drewN | apply below_drew1) | exact HB.out)) hb); clear HB; have HB := n0_; clear n0_; (try clear hb); (try clear hb2); (try clear hk); (try clear hi)) | ((with_reducible refine gate_dst (N := 5) rfl ?_); refine box_event ?hg (N := 5) ?hd (cs := #[.int .i64 0, .bool false]) (t := 29) ?hr ?_; (case hd => rfl); (case hg => rfl); (case hr => first | (go_simp; done) | (go_simp; rfl)); intro gb318 hg w12 hbox hb; have n0_ := Aside0.mk (below_step (by repeat (first | (with_reducible first | exact HB.out | apply below_alloc | apply pw_below_drewN | apply below_drew1) | exact HB.out)) hb); have n1_ := Aside0.mk (hbox); have n2_ := Aside0.mk ((by rw [hg]; exact (below_size (by repeat (first | (with_reducible first | exact HB.out | apply below_alloc | apply pw_below_drewN | apply below_drew1) | exact HB.out))) : w.heap.size ≤ gb318)); have n3_ := Aside0.mk ((by rw [hg]; exact (below_size (by repeat (first | (with_reducible first | exact HB.out | apply below_alloc | apply pw_below_drewN | apply below_drew1) | exact HB.out))) : w.heap.size ≤ gb318)); clear HB; have HB := n0_; have BK318 := n1_; have GW318 := n2_; have GE318 := n3_; clear n0_ n1_ n2_ n3_; clear hb hbox hg; have hcz13_0 : w12.cell? ⟨gb318, 0, none⟩ = some (.int .i64 0) := (blk_cell BK318.out 0).trans rfl; have hcz13_1 : w12.cell? ⟨gb318, 1, none⟩ = some (.bool false) := (blk_cell BK318.out 1).trans rfl; have hfz13_0 := blk_frozen BK318.out 0; have hfz13_1 := blk_frozen BK318.out 1) | ((with_reducible refine gate_callee (f := 28) rfl ?_); refine goesL_ (some 60) rfl rfl Try.func28 (by kernel_rfl) rfl #[.agg #[.int .i64 t315, .bool t316], .int .i64 t317] rfl (by (try simp only [List.map_toArray, List.map_cons, List.map_nil]); first | done | rfl | (simp only [List.length_drop, List.length_take]; rfl)) ?_; (with_reducible refine (impl_FitNumber.calls t315 t316 t317 t319 t320 _ A6.out).mono ?_); rintro e w14 ⟨rfl, hb⟩; refine ⟨_, rfl, ?_⟩; have n0_ := Aside0.mk (blk_below (g := gb318) (o := .cells #[.int .i64 t315, .bool t316] 29 (0, 0)) (by (with_reducible repeat (first | refine blk_drewN ?_ _ | refine blk_drew ?_ | refine blk_alloc ?_ _)); refine blk_put (cs := #[.int .i64 t315, .bool false]) ?_ 1 _ rfl; (with_reducible repeat (first | refine blk_drewN ?_ _ | refine blk_drew ?_ | refine blk_alloc ?_ _)); refine blk_put (cs := #[.int .i64 0, .bool false]) ?_ 0 _ rfl; (with_reducible repeat (first | refine blk_drewN ?_ _ | refine blk_drew ?_ | refine blk_alloc ?_ _)); exact BK318.out) hb); have n1_ := Aside0.mk (below_step (by repeat (first | (with_reducible first | exact HB.out | apply below_alloc | apply pw_below_drewN | apply below_drew1 | refine below_set ?_ GE318.out) | exact HB.out)) hb); clear BK318; clear HB; have BK318 := n0_; have HB := n1_; clear n0_ n1_; (try clear hb); (try clear hb2); (try clear hk); (try clear hi); have hcz15_0 : w14.cell? ⟨gb318, 0, none⟩ = some (.int .i64 t315) := (blk_cell BK318.out 0).trans rfl; have hcz15_1 : w14.cell? ⟨gb318, 1, none⟩ = some (.bool t316) := (blk_cell BK318.out 1).trans rfl; have hfz15_0 := blk_frozen BK318.out 0; have hfz15_1 := blk_frozen BK318.out 1) | ((with_reducible refine gate_callee (f := 29) rfl ?_); refine goesL_ (some 66) rfl rfl Try.func29 (by kernel_rfl) rfl #[.agg #[.int .i64 t315, .bool t316], .int .i64 t317] rfl (by (try simp only [List.map_toArray, List.map_cons, List.map_nil]); first | done | rfl | (simp only [List.length_drop, List.length_take]; rfl)) ?_; (with_reducible refine (spec_FitNumber.calls t315 t316 t317 t321 t322 _ A7.out).mono ?_); rintro e w16 ⟨rfl, hb⟩; refine ⟨_, rfl, ?_⟩; have n0_ := Aside0.mk (blk_below (g := gb318) (o := .cells #[.int .i64 t315, .bool t316] 29 (0, 0)) (by (with_reducible repeat (first | refine blk_drewN ?_ _ | refine blk_drew ?_ | refine blk_alloc ?_ _)); exact BK318.out) hb); have n1_ := Aside0.mk (below_step (by repeat (first | (with_reducible first | exact HB.out | apply below_alloc | apply pw_below_drewN | apply below_drew1 | refine below_set ?_ GE318.out) | exact HB.out)) hb); clear BK318; clear HB; have BK318 := n0_; have HB := n1_; clear n0_ n1_; (try clear hb); (try clear hb2); (try clear hk); (try clear hi); have hcz17_0 : w16.cell? ⟨gb318, 0, none⟩ = some (.int .i64 t315) := (blk_cell BK318.out 0).trans rfl; have hcz17_1 : w16.cell? ⟨gb318, 1, none⟩ = some (.bool t316) := (blk_cell BK318.out 1).trans rfl; have hfz17_0 := blk_frozen BK318.out 0; have hfz17_1 := blk_frozen BK318.out 1) | ((with_reducible refine gate_callee (f := 30) rfl ?_); refine goesL_ (some 71) rfl rfl Try.func30 (by kernel_rfl) rfl #[.agg #[.int .i64 t315, .bool t316]] rfl (by (try simp only [List.map_toArray, List.map_cons, List.map_nil]); first | done | rfl | (simp only [List.length_drop, List.length_take]; rfl)) ?_; (with_reducible refine (impl_RangeOf.calls t315 t316 t323 t324 t325 _ A8.out).mono ?_); rintro e w18 ⟨rfl, hb⟩; refine ⟨_, rfl, ?_⟩; have n0_ := Aside0.mk (blk_below (g := gb318) (o := .cells #[.int .i64 t315, .bool t316] 29 (0, 0)) (by (with_reducible repeat (first | refine blk_drewN ?_ _ | refine blk_drew ?_ | refine blk_alloc ?_ _)); exact BK318.out) hb); have n1_ := Aside0.mk (below_step (by repeat (first | (with_reducible first | exact HB.out | apply below_alloc | apply pw_below_drewN | apply below_drew1 | refine below_set ?_ GE318.out) | exact HB.out)) hb); clear BK318; clear HB; have BK318 := n0_; have HB := n1_; clear n0_ n1_; (try clear hb); (try clear hb2); (try clear hk); (try clear hi); have hcz19_0 : w18.cell? ⟨gb318, 0, none⟩ = some (.int .i64 t315) := (blk_cell BK318.out 0).trans rfl; have hcz19_1 : w18.cell? ⟨gb318, 1, none⟩ = some (.bool t316) := (blk_cell BK318.out 1).trans rfl; have hfz19_0 := blk_frozen BK318.out 0; have hfz19_1 := blk_frozen BK318.out 1) | ((with_reducible refine gate_callee (f := 31) rfl ?_); refine goesL_ (some 77) rfl rfl Try.func31 (by kernel_rfl) rfl #[.agg #[.int .i64 t315, .bool t316]] rfl (by (try simp only [List.map_toArray, List.map_cons, List.map_nil]); first | done | rfl | (simp only [List.length_drop, List.length_take]; rfl)) ?_; (with_reducible refine (spec_RangeOf.calls t315 t316 t326 t327 t328 _ A9.out).mono ?_); rintro e w20 ⟨rfl, hb⟩; refine ⟨_, rfl, ?_⟩; have n0_ := Aside0.mk (blk_below (g := gb318) (o := .cells #[.int .i64 t315, .bool t316] 29 (0, 0)) (by (with_reducible repeat (first | refine blk_drewN ?_ _ | refine blk_drew ?_ | refine blk_alloc ?_ _)); exact BK318.out) hb); have n1_ := Aside0.mk (below_step (by repeat (first | (with_reducible first | exact HB.out | apply below_alloc | apply pw_below_drewN | apply below_drew1 | refine below_set ?_ GE318.out) | exact HB.out)) hb); clear BK318; clear HB; have BK318 := n0_; have HB := n1_; clear n0_ n1_; (try clear hb); (try clear hb2); (try clear hk); (try clear hi)))
  (try simp only [Act.put, List.setIfInBounds_toArray, List.set_cons_zero, List.set_cons_succ])
  go_cut [123] (fun v123 wc => ∃ (kq : Nat) (x123_9 : Bool), v123 = .bool x123_9 ∧ Aside0 (laws_FnWordsFit.j0 kq l1 t317 t319 t320 t323 t324 x123_9 t315 t316 = some r) ∧ Aside0 (kq ≤ k) ∧ Aside0 (wc.heap[gb318]? = some (.cells #[.int .i64 t315, .bool t316] 29 (0, 0))) ∧ Aside0 (Below w.heap.size w wc))
  case first => as_aux_lemma =>
   have H := HC10.out
   clear HC10
   by_cases c21 : (t320 != t322) = true
   ·as_aux_lemma =>
     rw [if_pos c21] at H
     have c21b0 : (t320 != t322) = true := c21
     (try (have c21b1 : decide (t320 = t322) = false := by simpa using c21))
     (try (have c21b2 : (t320 == t322) = false := by simpa using c21))
     (try (have c21b3 : ¬ (t320 = t322) := by simpa using c21))
     clear c21
     (first | rw [c21b0] | (simp only [i64_w, i32_w]; rw [c21b0]) | skip)
     exact absurd H (by have hr_ := HRT.out; cases k <;> simp [laws_FnWordsFit.j0, hr_])
   ·rw [if_neg c21] at H
    have c21b0 : (t320 != t322) = false := by simpa using c21
    (try (have c21b1 : decide (t320 = t322) = true := by simpa using c21))
    (try (have c21b2 : (t320 == t322) = true := by simpa using c21))
    clear c21
    (first | rw [c21b0] | (simp only [i64_w, i32_w]; rw [c21b0]) | skip)
    by_cases c22 : t319 = t321
    ·rw [if_pos c22] at H
     have c22b0 : (t319 == t321) = true := beq_iff_eq.mpr c22
     have c22b1 : (t319 != t321) = false := bne_eq_false_iff_eq.mpr c22
     clear c22
     by_cases c23 : (t325 != t328) = true
     ·as_aux_lemma =>
       rw [if_pos c23] at H
       have c23b0 : (t325 != t328) = true := c23
       (try (have c23b1 : decide (t325 = t328) = false := by simpa using c23))
       (try (have c23b2 : (t325 == t328) = false := by simpa using c23))
       (try (have c23b3 : ¬ (t325 = t328) := by simpa using c23))
       clear c23
       exact absurd H (by have hr_ := HRT.out; cases k <;> simp [laws_FnWordsFit.j0, hr_])
     ·rw [if_neg c23] at H
      have c23b0 : (t325 != t328) = false := by simpa using c23
      (try (have c23b1 : decide (t325 = t328) = true := by simpa using c23))
      (try (have c23b2 : (t325 == t328) = true := by simpa using c23))
      clear c23
      by_cases c24 : t323 = t326
      ·rw [if_pos c24] at H
       have c24b0 : (t323 == t326) = true := beq_iff_eq.mpr c24
       have c24b1 : (t323 != t326) = false := bne_eq_false_iff_eq.mpr c24
       clear c24
       by_cases c25 : t324 = t327
       ·rw [if_pos c25] at H
        have c25b0 : (t324 == t327) = true := beq_iff_eq.mpr c25
        have c25b1 : (t324 != t327) = false := bne_eq_false_iff_eq.mpr c25
        clear c25
        replace H := Option.bind_eq_some_iff.mp H
        obtain ⟨t329, A260, H⟩ := H
        (try dsimp only at H)
        have A26 := Aside0.mk A260
        clear A260
        by_cases c27 : (t325 != t329) = true
        ·as_aux_lemma =>
          rw [if_pos c27] at H
          have c27b0 : (t325 != t329) = true := c27
          (try (have c27b1 : decide (t325 = t329) = false := by simpa using c27))
          (try (have c27b2 : (t325 == t329) = false := by simpa using c27))
          (try (have c27b3 : ¬ (t325 = t329) := by simpa using c27))
          clear c27
          exact absurd H (by have hr_ := HRT.out; cases k <;> simp [laws_FnWordsFit.j0, hr_])
        ·rw [if_neg c27] at H
         have c27b0 : (t325 != t329) = false := by simpa using c27
         (try (have c27b1 : decide (t325 = t329) = true := by simpa using c27))
         (try (have c27b2 : (t325 == t329) = true := by simpa using c27))
         clear c27
         replace H := Option.bind_eq_some_iff.mp H
         obtain ⟨t330, A280, H⟩ := H
         (try dsimp only at H)
         have A28 := Aside0.mk A280
         obtain rfl : t329 = t330 := Option.some.inj (A26.out.symm.trans A28.out)
         clear A280
         replace H := Option.bind_eq_some_iff.mp H
         obtain ⟨t331, A290, H⟩ := H
         (try dsimp only at H)
         have A29 := Aside0.mk A290
         clear A290
         by_cases c30 : (t329 != t331) = true
         ·as_aux_lemma =>
           rw [if_pos c30] at H
           have c30b0 : (t329 != t331) = true := c30
           (try (have c30b1 : decide (t329 = t331) = false := by simpa using c30))
           (try (have c30b2 : (t329 == t331) = false := by simpa using c30))
           (try (have c30b3 : ¬ (t329 = t331) := by simpa using c30))
           clear c30
           exact absurd H (by have hr_ := HRT.out; cases k <;> simp [laws_FnWordsFit.j0, hr_])
         ·rw [if_neg c30] at H
          have c30b0 : (t329 != t331) = false := by simpa using c30
          (try (have c30b1 : decide (t329 = t331) = true := by simpa using c30))
          (try (have c30b2 : (t329 == t331) = true := by simpa using c30))
          clear c30
          by_cases c31 : t320 = true
          ·subst c31
           have H1 := H
           rw [if_pos rfl] at H1
           clear H
           have H := H1
           clear H1
           have H' := Aside0.mk H
           clear H
           try go_wp2
           have n0_ := Aside0.mk (blk_drew BK318.out)
           have n1_ := Aside0.mk (below_drew1 HB.out)
           clear BK318
           clear HB
           have BK318 := n0_
           have HB := n1_
           clear n0_ n1_
           refine start_ (n := 43) (S := fun w' => w'.cell? ⟨gb318, 0, none⟩ = some (.int .i64 t315) ∧ w'.cell? ⟨gb318, 1, none⟩ = some (.bool t316)) (ds := []) #[false, false, false, false, false, false, false, false, false, false, false, false, false, false, false, false, false, false, false, false, false, false, false, false, false, false, false, false, false, false, false, false, false, false, false, false, false, false, false, false, false, false, false] (by kernel_rfl) rfl rfl ⟨(blk_cell BK318.out 0).trans rfl, (blk_cell BK318.out 1).trans rfl⟩ (fun hHeld => ?_); refine with_tabW laws_FnWordsFit.tab8 laws_FnWordsFit.bits8 (fun HT_ HW_ => ?_)
           generalize w20.drew = w32 at BK318 HB hHeld ⊢
           refine pure_ (i := 0) (N := some 81) (v := ?_) (a' := ?_) #[true, false, false, false, false, false, false, false, false, false, false, false, false, false, false, false, false, false, false, false, false, false, false, false, false, false, false, false, false, false, false, false, false, false, false, false, false, false, false, false, false, false, false] rfl rfl (any_of HT_.out (by kernel_rfl)) (fun _ _ _ h => h) (Or.inl ⟨by rfl, ?_⟩) ?_ ?_
           rotate_left
           ·intro w'
            go_simp
            with_reducible rfl
           rotate_left
           ·simp only [Act.put, List.setIfInBounds_toArray, List.set_cons_zero, List.set_cons_succ, i64_w, i32_w]
            rfl
           refine pure_ (i := 1) (N := some 82) (v := ?_) (a' := ?_) #[true, true, false, false, false, false, false, false, false, false, false, false, false, false, false, false, false, false, false, false, false, false, false, false, false, false, false, false, false, false, false, false, false, false, false, false, false, false, false, false, false, false, false] rfl rfl (any_of HT_.out (by kernel_rfl)) (fun _ _ _ h => h) (Or.inl ⟨by rfl, ?_⟩) ?_ ?_
           rotate_left
           ·intro w'
            go_simp
            with_reducible rfl
           rotate_left
           ·simp only [Act.put, List.setIfInBounds_toArray, List.set_cons_zero, List.set_cons_succ, i64_w, i32_w]
            rfl
           refine pure_ (i := 2) (N := some 83) (v := ?_) (a' := ?_) #[true, true, true, false, false, false, false, false, false, false, false, false, false, false, false, false, false, false, false, false, false, false, false, false, false, false, false, false, false, false, false, false, false, false, false, false, false, false, false, false, false, false, false] rfl rfl (any_of HT_.out (by kernel_rfl)) (fun _ _ _ h => h) (Or.inl ⟨by rfl, ?_⟩) ?_ ?_
           rotate_left
           ·intro w'
            go_simp
            with_reducible rfl
           rotate_left
           ·simp only [Act.put, List.setIfInBounds_toArray, List.set_cons_zero, List.set_cons_succ, i64_w, i32_w]
            rfl
           refine pure_ (i := 3) (N := some 84) (v := ?_) (a' := ?_) #[true, true, true, true, false, false, false, false, false, false, false, false, false, false, false, false, false, false, false, false, false, false, false, false, false, false, false, false, false, false, false, false, false, false, false, false, false, false, false, false, false, false, false] rfl rfl (any_of HT_.out (by kernel_rfl)) (fun _ _ _ h => h) (Or.inl ⟨by rfl, ?_⟩) ?_ ?_
           rotate_left
           ·intro w'
            go_simp
            with_reducible rfl
           rotate_left
           ·simp only [Act.put, List.setIfInBounds_toArray, List.set_cons_zero, List.set_cons_succ, i64_w, i32_w]
            rfl
           refine pure_ (i := 4) (N := some 85) (v := ?_) (a' := ?_) #[true, true, true, true, true, false, false, false, false, false, false, false, false, false, false, false, false, false, false, false, false, false, false, false, false, false, false, false, false, false, false, false, false, false, false, false, false, false, false, false, false, false, false] rfl rfl (any_of HT_.out (by kernel_rfl)) (fun _ _ _ h => h) (Or.inl ⟨by rfl, ?_⟩) ?_ ?_
           rotate_left
           ·intro w'
            go_simp
            with_reducible rfl
           rotate_left
           ·simp only [Act.put, List.setIfInBounds_toArray, List.set_cons_zero, List.set_cons_succ, i64_w, i32_w]
            rfl
           refine pure_ (i := 5) (N := some 86) (v := ?_) (a' := ?_) #[true, true, true, true, true, true, false, false, false, false, false, false, false, false, false, false, false, false, false, false, false, false, false, false, false, false, false, false, false, false, false, false, false, false, false, false, false, false, false, false, false, false, false] rfl rfl (any_of HT_.out (by kernel_rfl)) (fun _ _ _ h => h) (Or.inl ⟨by rfl, ?_⟩) ?_ ?_
           rotate_left
           ·intro w'
            go_simp
            with_reducible rfl
           rotate_left
           ·simp only [Act.put, List.setIfInBounds_toArray, List.set_cons_zero, List.set_cons_succ, i64_w, i32_w]
            rfl
           refine pure_ (i := 6) (N := some 87) (v := ?_) (a' := ?_) #[true, true, true, true, true, true, true, false, false, false, false, false, false, false, false, false, false, false, false, false, false, false, false, false, false, false, false, false, false, false, false, false, false, false, false, false, false, false, false, false, false, false, false] rfl rfl (any_of HT_.out (by kernel_rfl)) (fun _ _ _ h => h) (Or.inl ⟨by rfl, ?_⟩) ?_ ?_
           rotate_left
           ·intro w'
            go_simp
            with_reducible rfl
           rotate_left
           ·simp only [Act.put, List.setIfInBounds_toArray, List.set_cons_zero, List.set_cons_succ, i64_w, i32_w]
            rfl
           refine pure_ (i := 7) (N := some 88) (v := ?_) (a' := ?_) #[true, true, true, true, true, true, true, true, false, false, false, false, false, false, false, false, false, false, false, false, false, false, false, false, false, false, false, false, false, false, false, false, false, false, false, false, false, false, false, false, false, false, false] rfl rfl (any_of HT_.out (by kernel_rfl)) (fun _ _ _ h => h) (Or.inl ⟨by rfl, ?_⟩) ?_ ?_
           rotate_left
           ·intro w'
            go_simp
            with_reducible rfl
           rotate_left
           ·simp only [Act.put, List.setIfInBounds_toArray, List.set_cons_zero, List.set_cons_succ, i64_w, i32_w]
            rfl
           refine pure_ (i := 8) (N := some 89) (v := ?_) (a' := ?_) #[true, true, true, true, true, true, true, true, true, false, false, false, false, false, false, false, false, false, false, false, false, false, false, false, false, false, false, false, false, false, false, false, false, false, false, false, false, false, false, false, false, false, false] rfl rfl (any_of HT_.out (by kernel_rfl)) (fun _ _ _ h => h) (Or.inl ⟨by rfl, ?_⟩) ?_ ?_
           rotate_left
           ·intro w'
            go_simp
            with_reducible rfl
           rotate_left
           ·simp only [Act.put, List.setIfInBounds_toArray, List.set_cons_zero, List.set_cons_succ, i64_w, i32_w]
            rfl
           refine pure_ (i := 9) (N := some 90) (v := ?_) (a' := ?_) #[true, true, true, true, true, true, true, true, true, true, false, false, false, false, false, false, false, false, false, false, false, false, false, false, false, false, false, false, false, false, false, false, false, false, false, false, false, false, false, false, false, false, false] rfl rfl (any_of HT_.out (by kernel_rfl)) (fun _ _ _ h => h) (Or.inl ⟨by rfl, ?_⟩) ?_ ?_
           rotate_left
           ·intro w'
            go_simp
            with_reducible rfl
           rotate_left
           ·simp only [Act.put, List.setIfInBounds_toArray, List.set_cons_zero, List.set_cons_succ, i64_w, i32_w]
            rfl
           refine pure_ (i := 10) (N := some 91) (v := ?_) (a' := ?_) #[true, true, true, true, true, true, true, true, true, true, true, false, false, false, false, false, false, false, false, false, false, false, false, false, false, false, false, false, false, false, false, false, false, false, false, false, false, false, false, false, false, false, false] rfl rfl (any_of HT_.out (by kernel_rfl)) (fun _ _ _ h => h) (Or.inl ⟨by rfl, ?_⟩) ?_ ?_
           rotate_left
           ·intro w'
            go_simp
            with_reducible rfl
           rotate_left
           ·simp only [Act.put, List.setIfInBounds_toArray, List.set_cons_zero, List.set_cons_succ, i64_w, i32_w]
            rfl
           refine pure_ (i := 11) (N := some 92) (v := ?_) (a' := ?_) #[true, true, true, true, true, true, true, true, true, true, true, true, false, false, false, false, false, false, false, false, false, false, false, false, false, false, false, false, false, false, false, false, false, false, false, false, false, false, false, false, false, false, false] rfl rfl (any_of HT_.out (by kernel_rfl)) (fun _ _ _ h => h) (Or.inl ⟨by rfl, ?_⟩) ?_ ?_
           rotate_left
           ·intro w'
            go_simp
            with_reducible rfl
           rotate_left
           ·simp only [Act.put, List.setIfInBounds_toArray, List.set_cons_zero, List.set_cons_succ, i64_w, i32_w]
            rfl
           refine pure_ (i := 12) (N := some 93) (v := ?_) (a' := ?_) #[true, true, true, true, true, true, true, true, true, true, true, true, true, false, false, false, false, false, false, false, false, false, false, false, false, false, false, false, false, false, false, false, false, false, false, false, false, false, false, false, false, false, false] rfl rfl (any_of HT_.out (by kernel_rfl)) (fun _ _ _ h => h) (Or.inl ⟨by rfl, ?_⟩) ?_ ?_
           rotate_left
           ·intro w'
            go_simp
            with_reducible rfl
           rotate_left
           ·simp only [Act.put, List.setIfInBounds_toArray, List.set_cons_zero, List.set_cons_succ, i64_w, i32_w]
            rfl
           refine pure_ (i := 13) (N := some 94) (v := ?_) (a' := ?_) #[true, true, true, true, true, true, true, true, true, true, true, true, true, true, false, false, false, false, false, false, false, false, false, false, false, false, false, false, false, false, false, false, false, false, false, false, false, false, false, false, false, false, false] rfl rfl (any_of HT_.out (by kernel_rfl)) (fun _ _ _ h => h) (Or.inl ⟨by rfl, ?_⟩) ?_ ?_
           rotate_left
           ·intro w'
            go_simp
            with_reducible rfl
           rotate_left
           ·simp only [Act.put, List.setIfInBounds_toArray, List.set_cons_zero, List.set_cons_succ, i64_w, i32_w]
            rfl
           refine pure_ (i := 14) (N := some 95) (v := ?_) (a' := ?_) #[true, true, true, true, true, true, true, true, true, true, true, true, true, true, true, false, false, false, false, false, false, false, false, false, false, false, false, false, false, false, false, false, false, false, false, false, false, false, false, false, false, false, false] rfl rfl (any_of HT_.out (by kernel_rfl)) (fun _ _ _ h => h) (Or.inl ⟨by rfl, ?_⟩) ?_ ?_
           rotate_left
           ·intro w'
            go_simp
            with_reducible rfl
           rotate_left
           ·simp only [Act.put, List.setIfInBounds_toArray, List.set_cons_zero, List.set_cons_succ, i64_w, i32_w]
            rfl
           refine pure_ (i := 15) (N := some 96) (v := ?_) (a' := ?_) #[true, true, true, true, true, true, true, true, true, true, true, true, true, true, true, true, false, false, false, false, false, false, false, false, false, false, false, false, false, false, false, false, false, false, false, false, false, false, false, false, false, false, false] rfl rfl (any_of HT_.out (by kernel_rfl)) (fun _ _ _ h => h) (Or.inl ⟨by rfl, ?_⟩) ?_ ?_
           rotate_left
           ·intro w'
            go_simp
            with_reducible rfl
           rotate_left
           ·simp only [Act.put, List.setIfInBounds_toArray, List.set_cons_zero, List.set_cons_succ, i64_w, i32_w]
            rfl
           refine pure_ (i := 16) (N := some 97) (v := ?_) (a' := ?_) #[true, true, true, true, true, true, true, true, true, true, true, true, true, true, true, true, true, false, false, false, false, false, false, false, false, false, false, false, false, false, false, false, false, false, false, false, false, false, false, false, false, false, false] rfl rfl (any_of HT_.out (by kernel_rfl)) (fun _ _ _ h => h) (Or.inl ⟨by rfl, ?_⟩) ?_ ?_
           rotate_left
           ·intro w'
            go_simp
            with_reducible rfl
           rotate_left
           ·simp only [Act.put, List.setIfInBounds_toArray, List.set_cons_zero, List.set_cons_succ, i64_w, i32_w]
            rfl
           refine pure_ (i := 17) (N := some 98) (v := ?_) (a' := ?_) #[true, true, true, true, true, true, true, true, true, true, true, true, true, true, true, true, true, true, false, false, false, false, false, false, false, false, false, false, false, false, false, false, false, false, false, false, false, false, false, false, false, false, false] rfl rfl (any_of HT_.out (by kernel_rfl)) (fun _ _ _ h => h) (Or.inl ⟨by rfl, ?_⟩) ?_ ?_
           rotate_left
           ·intro w'
            go_simp
            with_reducible rfl
           rotate_left
           ·simp only [Act.put, List.setIfInBounds_toArray, List.set_cons_zero, List.set_cons_succ, i64_w, i32_w]
            rfl
           refine pure_ (i := 18) (N := some 99) (v := ?_) (a' := ?_) #[true, true, true, true, true, true, true, true, true, true, true, true, true, true, true, true, true, true, true, false, false, false, false, false, false, false, false, false, false, false, false, false, false, false, false, false, false, false, false, false, false, false, false] rfl rfl (any_of HT_.out (by kernel_rfl)) (fun _ _ _ h => h) (Or.inl ⟨by rfl, ?_⟩) ?_ ?_
           rotate_left
           ·intro w'
            go_simp
            with_reducible rfl
           rotate_left
           ·simp only [Act.put, List.setIfInBounds_toArray, List.set_cons_zero, List.set_cons_succ, i64_w, i32_w]
            rfl
           refine pure_ (i := 19) (N := some 100) (v := ?_) (a' := ?_) #[true, true, true, true, true, true, true, true, true, true, true, true, true, true, true, true, true, true, true, true, false, false, false, false, false, false, false, false, false, false, false, false, false, false, false, false, false, false, false, false, false, false, false] rfl rfl (any_of HT_.out (by kernel_rfl)) (fun _ _ _ h => h) (Or.inl ⟨by rfl, ?_⟩) ?_ ?_
           rotate_left
           ·intro w'
            go_simp
            with_reducible rfl
           rotate_left
           ·simp only [Act.put, List.setIfInBounds_toArray, List.set_cons_zero, List.set_cons_succ, i64_w, i32_w]
            rfl
           refine pure_ (i := 20) (N := some 101) (v := ?_) (a' := ?_) #[true, true, true, true, true, true, true, true, true, true, true, true, true, true, true, true, true, true, true, true, true, false, false, false, false, false, false, false, false, false, false, false, false, false, false, false, false, false, false, false, false, false, false] rfl rfl (any_of HT_.out (by kernel_rfl)) (fun _ _ _ h => h) (Or.inl ⟨by rfl, ?_⟩) ?_ ?_
           rotate_left
           ·intro w'
            go_simp
            with_reducible rfl
           rotate_left
           ·simp only [Act.put, List.setIfInBounds_toArray, List.set_cons_zero, List.set_cons_succ, i64_w, i32_w]
            rfl
           refine pure_ (i := 21) (N := some 102) (v := ?_) (a' := ?_) #[true, true, true, true, true, true, true, true, true, true, true, true, true, true, true, true, true, true, true, true, true, true, false, false, false, false, false, false, false, false, false, false, false, false, false, false, false, false, false, false, false, false, false] rfl rfl (any_of HT_.out (by kernel_rfl)) (fun _ _ _ h => h) (Or.inl ⟨by rfl, ?_⟩) ?_ ?_
           rotate_left
           ·intro w'
            go_simp
            with_reducible rfl
           rotate_left
           ·simp only [Act.put, List.setIfInBounds_toArray, List.set_cons_zero, List.set_cons_succ, i64_w, i32_w]
            rfl
           refine pure_ (i := 22) (N := some 103) (v := ?_) (a' := ?_) #[true, true, true, true, true, true, true, true, true, true, true, true, true, true, true, true, true, true, true, true, true, true, true, false, false, false, false, false, false, false, false, false, false, false, false, false, false, false, false, false, false, false, false] rfl rfl (any_of HT_.out (by kernel_rfl)) (fun _ _ _ h => h) (Or.inl ⟨by rfl, ?_⟩) ?_ ?_
           rotate_left
           ·intro w'
            go_simp
            with_reducible rfl
           rotate_left
           ·simp only [Act.put, List.setIfInBounds_toArray, List.set_cons_zero, List.set_cons_succ, i64_w, i32_w]
            rfl
           refine pure_ (i := 23) (N := some 104) (v := ?_) (a' := ?_) #[true, true, true, true, true, true, true, true, true, true, true, true, true, true, true, true, true, true, true, true, true, true, true, true, false, false, false, false, false, false, false, false, false, false, false, false, false, false, false, false, false, false, false] rfl rfl (any_of HT_.out (by kernel_rfl)) (fun _ _ _ h => h) (Or.inl ⟨by rfl, ?_⟩) ?_ ?_
           rotate_left
           ·intro w'
            go_simp
            with_reducible rfl
           rotate_left
           ·simp only [Act.put, List.setIfInBounds_toArray, List.set_cons_zero, List.set_cons_succ, i64_w, i32_w]
            rfl
           refine pure_ (i := 24) (N := some 105) (v := ?_) (a' := ?_) #[true, true, true, true, true, true, true, true, true, true, true, true, true, true, true, true, true, true, true, true, true, true, true, true, true, false, false, false, false, false, false, false, false, false, false, false, false, false, false, false, false, false, false] rfl rfl (any_of HT_.out (by kernel_rfl)) (fun _ _ _ h => h) (Or.inl ⟨by rfl, ?_⟩) ?_ ?_
           rotate_left
           ·intro w'
            go_simp
            with_reducible rfl
           rotate_left
           ·simp only [Act.put, List.setIfInBounds_toArray, List.set_cons_zero, List.set_cons_succ, i64_w, i32_w]
            rfl
           refine take_ (i := 25) (N := some 106) (v := ?_) (a' := ?_) #[true, true, true, true, true, true, true, true, true, true, true, true, true, true, true, true, true, true, true, true, true, true, true, true, true, true, false, false, false, false, false, false, false, false, false, false, false, false, false, false, false, false, false] rfl rfl (take_ofW HT_.out HW_.out (by kernel_rfl)) (fun _ _ _ h => h) (Or.inl ⟨by rfl, ?_⟩) hHeld ?_ ?_
           rotate_left
           ·rintro w' ⟨s0, s1⟩
            go_simp
            with_reducible rfl
           rotate_left
           ·simp only [Act.put, List.setIfInBounds_toArray, List.set_cons_zero, List.set_cons_succ, i64_w, i32_w]
            rfl
           refine one_ (i := 26) (N := some 107) #[true, true, true, true, true, true, true, true, true, true, true, true, true, true, true, true, true, true, true, true, true, true, true, true, true, true, true, false, false, false, false, false, false, false, false, false, false, false, false, false, false, false, false] rfl rfl (one_of HT_.out (by kernel_rfl)) (by decide) (fun K hK => ?_)
           refine goes_ Try.func32 (by kernel_rfl) rfl #[.agg #[.int .i64 t315, .bool t316]] (by rfl) rfl rfl (by (try simp only [List.map_toArray, List.map_cons, List.map_nil]); first | done | rfl | (simp only [List.length_drop, List.length_take]; rfl)) ?_
           with_reducible refine (impl_IsWord.calls t315 t316 t329 _ A26.out).mono ?_
           rintro e w33 ⟨rfl, hb⟩
           refine ⟨_, rfl, ?_⟩
           have n0_ := Aside0.mk (blk_below (g := gb318) (o := .cells #[.int .i64 t315, .bool t316] 29 (0, 0)) (by (with_reducible repeat (first | refine blk_drewN ?_ _ | refine blk_drew ?_ | refine blk_alloc ?_ _)); exact BK318.out) hb)
           have n1_ := Aside0.mk (below_step (by repeat (first | (with_reducible first | exact HB.out | apply below_alloc | apply pw_below_drewN | apply below_drew1 | refine below_set ?_ GE318.out) | exact HB.out)) hb)
           clear BK318
           clear HB
           have BK318 := n0_
           have HB := n1_
           clear n0_ n1_
           (try clear hb)
           (try clear hb2)
           (try clear hk)
           (try clear hi)
           refine hK.out _ _ ⟨(blk_cell BK318.out 0).trans rfl, (blk_cell BK318.out 1).trans rfl⟩ (fun hHeld => ?_)
           clear hK K
           refine norm_ (a' := ?_) ?_ ?_
           rotate_left
           ·show Act.put _ (some 107) _ = _
            simp only [Act.put, List.setIfInBounds_toArray, List.set_cons_zero, List.set_cons_succ, i64_w, i32_w]
            rfl
           refine pure_ (i := 27) (N := some 108) (v := ?_) (a' := ?_) #[true, true, true, true, true, true, true, true, true, true, true, true, true, true, true, true, true, true, true, true, true, true, true, true, true, true, true, true, false, false, false, false, false, false, false, false, false, false, false, false, false, false, false] rfl rfl (any_of HT_.out (by kernel_rfl)) (fun _ _ _ h => h) (Or.inl ⟨by rfl, ?_⟩) ?_ ?_
           rotate_left
           ·intro w'
            go_simp
            with_reducible rfl
           rotate_left
           ·simp only [Act.put, List.setIfInBounds_toArray, List.set_cons_zero, List.set_cons_succ, i64_w, i32_w]
            rfl
           refine pure_ (i := 28) (N := some 109) (v := ?_) (a' := ?_) #[true, true, true, true, true, true, true, true, true, true, true, true, true, true, true, true, true, true, true, true, true, true, true, true, true, true, true, true, true, false, false, false, false, false, false, false, false, false, false, false, false, false, false] rfl rfl (any_of HT_.out (by kernel_rfl)) (fun _ _ _ h => h) (Or.inl ⟨by rfl, ?_⟩) ?_ ?_
           rotate_left
           ·intro w'
            go_simp
            with_reducible rfl
           rotate_left
           ·simp only [Act.put, List.setIfInBounds_toArray, List.set_cons_zero, List.set_cons_succ, i64_w, i32_w]
            rfl
           refine pure_ (i := 29) (N := some 110) (v := ?_) (a' := ?_) #[true, true, true, true, true, true, true, true, true, true, true, true, true, true, true, true, true, true, true, true, true, true, true, true, true, true, true, true, true, true, false, false, false, false, false, false, false, false, false, false, false, false, false] rfl rfl (any_of HT_.out (by kernel_rfl)) (fun _ _ _ h => h) (Or.inl ⟨by rfl, ?_⟩) ?_ ?_
           rotate_left
           ·intro w'
            go_simp
            with_reducible rfl
           rotate_left
           ·simp only [Act.put, List.setIfInBounds_toArray, List.set_cons_zero, List.set_cons_succ, i64_w, i32_w]
            rfl
           refine take_ (i := 30) (N := some 111) (v := ?_) (a' := ?_) #[true, true, true, true, true, true, true, true, true, true, true, true, true, true, true, true, true, true, true, true, true, true, true, true, true, true, true, true, true, true, true, false, false, false, false, false, false, false, false, false, false, false, false] rfl rfl (take_ofW HT_.out HW_.out (by kernel_rfl)) (fun _ _ _ h => h) (Or.inl ⟨by rfl, ?_⟩) hHeld ?_ ?_
           rotate_left
           ·rintro w' ⟨s0, s1⟩
            go_simp
            with_reducible rfl
           rotate_left
           ·simp only [Act.put, List.setIfInBounds_toArray, List.set_cons_zero, List.set_cons_succ, i64_w, i32_w]
            rfl
           refine take_ (i := 32) (N := some 113) (v := ?_) (a' := ?_) #[true, true, true, true, true, true, true, true, true, true, true, true, true, true, true, true, true, true, true, true, true, true, true, true, true, true, true, true, true, true, true, false, true, false, false, false, false, false, false, false, false, false, false] rfl rfl (take_ofW HT_.out HW_.out (by kernel_rfl)) (fun _ _ _ h => h) (Or.inl ⟨by rfl, ?_⟩) hHeld ?_ ?_
           rotate_left
           ·rintro w' ⟨s0, s1⟩
            go_simp
            with_reducible rfl
           rotate_left
           ·simp only [Act.put, List.setIfInBounds_toArray, List.set_cons_zero, List.set_cons_succ, i64_w, i32_w]
            rfl
           refine one_ (i := 31) (N := some 112) #[true, true, true, true, true, true, true, true, true, true, true, true, true, true, true, true, true, true, true, true, true, true, true, true, true, true, true, true, true, true, true, true, true, false, false, false, false, false, false, false, false, false, false] rfl rfl (one_of HT_.out (by kernel_rfl)) (by decide) (fun K hK => ?_)
           refine goes_ Try.func32 (by kernel_rfl) rfl #[.agg #[.int .i64 t315, .bool t316]] (by rfl) rfl rfl (by (try simp only [List.map_toArray, List.map_cons, List.map_nil]); first | done | rfl | (simp only [List.length_drop, List.length_take]; rfl)) ?_
           with_reducible refine (impl_IsWord.calls t315 t316 t329 _ A28.out).mono ?_
           rintro e w34 ⟨rfl, hb⟩
           refine ⟨_, rfl, ?_⟩
           have n0_ := Aside0.mk (blk_below (g := gb318) (o := .cells #[.int .i64 t315, .bool t316] 29 (0, 0)) (by (with_reducible repeat (first | refine blk_drewN ?_ _ | refine blk_drew ?_ | refine blk_alloc ?_ _)); exact BK318.out) hb)
           have n1_ := Aside0.mk (below_step (by repeat (first | (with_reducible first | exact HB.out | apply below_alloc | apply pw_below_drewN | apply below_drew1 | refine below_set ?_ GE318.out) | exact HB.out)) hb)
           clear BK318
           clear HB
           have BK318 := n0_
           have HB := n1_
           clear n0_ n1_
           (try clear hb)
           (try clear hb2)
           (try clear hk)
           (try clear hi)
           refine hK.out _ _ ⟨(blk_cell BK318.out 0).trans rfl, (blk_cell BK318.out 1).trans rfl⟩ (fun hHeld => ?_)
           clear hK K
           refine norm_ (a' := ?_) ?_ ?_
           rotate_left
           ·show Act.put _ (some 112) _ = _
            simp only [Act.put, List.setIfInBounds_toArray, List.set_cons_zero, List.set_cons_succ, i64_w, i32_w]
            rfl
           refine one_ (i := 33) (N := some 114) #[true, true, true, true, true, true, true, true, true, true, true, true, true, true, true, true, true, true, true, true, true, true, true, true, true, true, true, true, true, true, true, true, true, true, false, false, false, false, false, false, false, false, false] rfl rfl (one_of HT_.out (by kernel_rfl)) (by decide) (fun K hK => ?_)
           refine goes_ Try.func33 (by kernel_rfl) rfl #[.agg #[.int .i64 t315, .bool t316]] (by rfl) rfl rfl (by (try simp only [List.map_toArray, List.map_cons, List.map_nil]); first | done | rfl | (simp only [List.length_drop, List.length_take]; rfl)) ?_
           with_reducible refine (spec_IsWord.calls t315 t316 t331 _ A29.out).mono ?_
           rintro e w35 ⟨rfl, hb⟩
           refine ⟨_, rfl, ?_⟩
           have n0_ := Aside0.mk (blk_below (g := gb318) (o := .cells #[.int .i64 t315, .bool t316] 29 (0, 0)) (by (with_reducible repeat (first | refine blk_drewN ?_ _ | refine blk_drew ?_ | refine blk_alloc ?_ _)); exact BK318.out) hb)
           have n1_ := Aside0.mk (below_step (by repeat (first | (with_reducible first | exact HB.out | apply below_alloc | apply pw_below_drewN | apply below_drew1 | refine below_set ?_ GE318.out) | exact HB.out)) hb)
           clear BK318
           clear HB
           have BK318 := n0_
           have HB := n1_
           clear n0_ n1_
           (try clear hb)
           (try clear hb2)
           (try clear hk)
           (try clear hi)
           refine hK.out _ _ ⟨(blk_cell BK318.out 0).trans rfl, (blk_cell BK318.out 1).trans rfl⟩ (fun hHeld => ?_)
           clear hK K
           refine norm_ (a' := ?_) ?_ ?_
           rotate_left
           ·show Act.put _ (some 114) _ = _
            simp only [Act.put, List.setIfInBounds_toArray, List.set_cons_zero, List.set_cons_succ, i64_w, i32_w]
            rfl
           refine pure_ (i := 34) (N := some 115) (v := ?_) (a' := ?_) #[true, true, true, true, true, true, true, true, true, true, true, true, true, true, true, true, true, true, true, true, true, true, true, true, true, true, true, true, true, true, true, true, true, true, true, false, false, false, false, false, false, false, false] rfl rfl (any_of HT_.out (by kernel_rfl)) (fun _ _ _ h => h) (Or.inl ⟨by rfl, ?_⟩) ?_ ?_
           rotate_left
           ·intro w'
            go_simp
            with_reducible rfl
           rotate_left
           ·simp only [Act.put, List.setIfInBounds_toArray, List.set_cons_zero, List.set_cons_succ, i64_w, i32_w]
            rfl
           refine pure_ (i := 35) (N := some 116) (v := ?_) (a' := ?_) #[true, true, true, true, true, true, true, true, true, true, true, true, true, true, true, true, true, true, true, true, true, true, true, true, true, true, true, true, true, true, true, true, true, true, true, true, false, false, false, false, false, false, false] rfl rfl (any_of HT_.out (by kernel_rfl)) (fun _ _ _ h => h) (Or.inl ⟨by rfl, ?_⟩) ?_ ?_
           rotate_left
           ·intro w'
            go_simp
            with_reducible rfl
           rotate_left
           ·simp only [Act.put, List.setIfInBounds_toArray, List.set_cons_zero, List.set_cons_succ, i64_w, i32_w]
            rfl
           refine pure_ (i := 36) (N := some 117) (v := ?_) (a' := ?_) #[true, true, true, true, true, true, true, true, true, true, true, true, true, true, true, true, true, true, true, true, true, true, true, true, true, true, true, true, true, true, true, true, true, true, true, true, true, false, false, false, false, false, false] rfl rfl (any_of HT_.out (by kernel_rfl)) (fun _ _ _ h => h) (Or.inl ⟨by rfl, ?_⟩) ?_ ?_
           rotate_left
           ·intro w'
            go_simp
            with_reducible rfl
           rotate_left
           ·simp only [Act.put, List.setIfInBounds_toArray, List.set_cons_zero, List.set_cons_succ, i64_w, i32_w]
            rfl
           refine pure_ (i := 37) (N := some 118) (v := ?_) (a' := ?_) #[true, true, true, true, true, true, true, true, true, true, true, true, true, true, true, true, true, true, true, true, true, true, true, true, true, true, true, true, true, true, true, true, true, true, true, true, true, true, false, false, false, false, false] rfl rfl (any_of HT_.out (by kernel_rfl)) (fun _ _ _ h => h) (Or.inl ⟨by rfl, ?_⟩) ?_ ?_
           rotate_left
           ·intro w'
            go_simp
            with_reducible rfl
           rotate_left
           ·simp only [Act.put, List.setIfInBounds_toArray, List.set_cons_zero, List.set_cons_succ, i64_w, i32_w]
            rfl
           refine pure_ (i := 38) (N := some 119) (v := ?_) (a' := ?_) #[true, true, true, true, true, true, true, true, true, true, true, true, true, true, true, true, true, true, true, true, true, true, true, true, true, true, true, true, true, true, true, true, true, true, true, true, true, true, true, false, false, false, false] rfl rfl (any_of HT_.out (by kernel_rfl)) (fun _ _ _ h => h) (Or.inl ⟨by rfl, ?_⟩) ?_ ?_
           rotate_left
           ·intro w'
            go_simp
            with_reducible rfl
           rotate_left
           ·simp only [Act.put, List.setIfInBounds_toArray, List.set_cons_zero, List.set_cons_succ, i64_w, i32_w]
            rfl
           refine pure_ (i := 39) (N := some 120) (v := ?_) (a' := ?_) #[true, true, true, true, true, true, true, true, true, true, true, true, true, true, true, true, true, true, true, true, true, true, true, true, true, true, true, true, true, true, true, true, true, true, true, true, true, true, true, true, false, false, false] rfl rfl (any_of HT_.out (by kernel_rfl)) (fun _ _ _ h => h) (Or.inl ⟨by rfl, ?_⟩) ?_ ?_
           rotate_left
           ·intro w'
            go_simp
            with_reducible rfl
           rotate_left
           ·simp only [Act.put, List.setIfInBounds_toArray, List.set_cons_zero, List.set_cons_succ, i64_w, i32_w]
            rfl
           refine pure_ (i := 40) (N := some 121) (v := ?_) (a' := ?_) #[true, true, true, true, true, true, true, true, true, true, true, true, true, true, true, true, true, true, true, true, true, true, true, true, true, true, true, true, true, true, true, true, true, true, true, true, true, true, true, true, true, false, false] rfl rfl (any_of HT_.out (by kernel_rfl)) (fun _ _ _ h => h) (Or.inl ⟨by rfl, ?_⟩) ?_ ?_
           rotate_left
           ·intro w'
            go_simp
            with_reducible rfl
           rotate_left
           ·simp only [Act.put, List.setIfInBounds_toArray, List.set_cons_zero, List.set_cons_succ, i64_w, i32_w]
            rfl
           refine pure_ (i := 41) (N := some 122) (v := ?_) (a' := ?_) #[true, true, true, true, true, true, true, true, true, true, true, true, true, true, true, true, true, true, true, true, true, true, true, true, true, true, true, true, true, true, true, true, true, true, true, true, true, true, true, true, true, true, false] rfl rfl (any_of HT_.out (by kernel_rfl)) (fun _ _ _ h => h) (Or.inl ⟨by rfl, ?_⟩) ?_ ?_
           rotate_left
           ·intro w'
            go_simp
            with_reducible rfl
           rotate_left
           ·simp only [Act.put, List.setIfInBounds_toArray, List.set_cons_zero, List.set_cons_succ, i64_w, i32_w]
            rfl
           refine pure_ (i := 42) (N := some 123) (v := ?_) (a' := ?_) #[true, true, true, true, true, true, true, true, true, true, true, true, true, true, true, true, true, true, true, true, true, true, true, true, true, true, true, true, true, true, true, true, true, true, true, true, true, true, true, true, true, true, true] rfl rfl (any_of HT_.out (by kernel_rfl)) (fun _ _ _ h => h) (Or.inl ⟨by rfl, ?_⟩) ?_ ?_
           rotate_left
           ·intro w'
            go_simp
            with_reducible rfl
           rotate_left
           ·simp only [Act.put, List.setIfInBounds_toArray, List.set_cons_zero, List.set_cons_succ, i64_w, i32_w]
            rfl
           refine done_ (done_of HT_.out (by kernel_rfl)) ?_
           try go_wp2
           go_meet
           case rel => exact ⟨_, (!t325), (by first | rfl | (simp; done) | (simp [*]; done)), H', ⟨by first | omega | exact Nat.le_refl _⟩, ⟨by (with_reducible repeat (first | refine blk_drewN ?_ _ | refine blk_drew ?_ | refine blk_alloc ?_ _)); exact BK318.out⟩, ⟨by repeat (first | (with_reducible first | exact HB.out | apply below_alloc | apply pw_below_drewN | apply below_drew1 | refine below_set ?_ GE318.out) | exact HB.out)⟩⟩
          ·replace c31 := Bool.eq_false_iff.mpr c31
           subst c31
           have H1 := H
           rw [if_neg (show ¬ (false = true) by decide)] at H1
           clear H
           have H := H1
           clear H1
           have H' := Aside0.mk H
           clear H
           try go_wp2
           have n0_ := Aside0.mk (blk_drew BK318.out)
           have n1_ := Aside0.mk (below_drew1 HB.out)
           clear BK318
           clear HB
           have BK318 := n0_
           have HB := n1_
           clear n0_ n1_
           refine start_ (n := 43) (S := fun w' => w'.cell? ⟨gb318, 0, none⟩ = some (.int .i64 t315) ∧ w'.cell? ⟨gb318, 1, none⟩ = some (.bool t316)) (ds := []) #[false, false, false, false, false, false, false, false, false, false, false, false, false, false, false, false, false, false, false, false, false, false, false, false, false, false, false, false, false, false, false, false, false, false, false, false, false, false, false, false, false, false, false] (by kernel_rfl) rfl rfl ⟨(blk_cell BK318.out 0).trans rfl, (blk_cell BK318.out 1).trans rfl⟩ (fun hHeld => ?_); refine with_tabW laws_FnWordsFit.tab8 laws_FnWordsFit.bits8 (fun HT_ HW_ => ?_)
           generalize w20.drew = w36 at BK318 HB hHeld ⊢
           refine pure_ (i := 0) (N := some 81) (v := ?_) (a' := ?_) #[true, false, false, false, false, false, false, false, false, false, false, false, false, false, false, false, false, false, false, false, false, false, false, false, false, false, false, false, false, false, false, false, false, false, false, false, false, false, false, false, false, false, false] rfl rfl (any_of HT_.out (by kernel_rfl)) (fun _ _ _ h => h) (Or.inl ⟨by rfl, ?_⟩) ?_ ?_
           rotate_left
           ·intro w'
            go_simp
            with_reducible rfl
           rotate_left
           ·simp only [Act.put, List.setIfInBounds_toArray, List.set_cons_zero, List.set_cons_succ, i64_w, i32_w]
            rfl
           refine pure_ (i := 1) (N := some 82) (v := ?_) (a' := ?_) #[true, true, false, false, false, false, false, false, false, false, false, false, false, false, false, false, false, false, false, false, false, false, false, false, false, false, false, false, false, false, false, false, false, false, false, false, false, false, false, false, false, false, false] rfl rfl (any_of HT_.out (by kernel_rfl)) (fun _ _ _ h => h) (Or.inl ⟨by rfl, ?_⟩) ?_ ?_
           rotate_left
           ·intro w'
            go_simp
            with_reducible rfl
           rotate_left
           ·simp only [Act.put, List.setIfInBounds_toArray, List.set_cons_zero, List.set_cons_succ, i64_w, i32_w]
            rfl
           refine pure_ (i := 2) (N := some 83) (v := ?_) (a' := ?_) #[true, true, true, false, false, false, false, false, false, false, false, false, false, false, false, false, false, false, false, false, false, false, false, false, false, false, false, false, false, false, false, false, false, false, false, false, false, false, false, false, false, false, false] rfl rfl (any_of HT_.out (by kernel_rfl)) (fun _ _ _ h => h) (Or.inl ⟨by rfl, ?_⟩) ?_ ?_
           rotate_left
           ·intro w'
            go_simp
            with_reducible rfl
           rotate_left
           ·simp only [Act.put, List.setIfInBounds_toArray, List.set_cons_zero, List.set_cons_succ, i64_w, i32_w]
            rfl
           refine pure_ (i := 3) (N := some 84) (v := ?_) (a' := ?_) #[true, true, true, true, false, false, false, false, false, false, false, false, false, false, false, false, false, false, false, false, false, false, false, false, false, false, false, false, false, false, false, false, false, false, false, false, false, false, false, false, false, false, false] rfl rfl (any_of HT_.out (by kernel_rfl)) (fun _ _ _ h => h) (Or.inl ⟨by rfl, ?_⟩) ?_ ?_
           rotate_left
           ·intro w'
            go_simp
            with_reducible rfl
           rotate_left
           ·simp only [Act.put, List.setIfInBounds_toArray, List.set_cons_zero, List.set_cons_succ, i64_w, i32_w]
            rfl
           refine pure_ (i := 4) (N := some 85) (v := ?_) (a' := ?_) #[true, true, true, true, true, false, false, false, false, false, false, false, false, false, false, false, false, false, false, false, false, false, false, false, false, false, false, false, false, false, false, false, false, false, false, false, false, false, false, false, false, false, false] rfl rfl (any_of HT_.out (by kernel_rfl)) (fun _ _ _ h => h) (Or.inl ⟨by rfl, ?_⟩) ?_ ?_
           rotate_left
           ·intro w'
            go_simp
            with_reducible rfl
           rotate_left
           ·simp only [Act.put, List.setIfInBounds_toArray, List.set_cons_zero, List.set_cons_succ, i64_w, i32_w]
            rfl
           refine pure_ (i := 5) (N := some 86) (v := ?_) (a' := ?_) #[true, true, true, true, true, true, false, false, false, false, false, false, false, false, false, false, false, false, false, false, false, false, false, false, false, false, false, false, false, false, false, false, false, false, false, false, false, false, false, false, false, false, false] rfl rfl (any_of HT_.out (by kernel_rfl)) (fun _ _ _ h => h) (Or.inl ⟨by rfl, ?_⟩) ?_ ?_
           rotate_left
           ·intro w'
            go_simp
            with_reducible rfl
           rotate_left
           ·simp only [Act.put, List.setIfInBounds_toArray, List.set_cons_zero, List.set_cons_succ, i64_w, i32_w]
            rfl
           refine pure_ (i := 6) (N := some 87) (v := ?_) (a' := ?_) #[true, true, true, true, true, true, true, false, false, false, false, false, false, false, false, false, false, false, false, false, false, false, false, false, false, false, false, false, false, false, false, false, false, false, false, false, false, false, false, false, false, false, false] rfl rfl (any_of HT_.out (by kernel_rfl)) (fun _ _ _ h => h) (Or.inl ⟨by rfl, ?_⟩) ?_ ?_
           rotate_left
           ·intro w'
            go_simp
            with_reducible rfl
           rotate_left
           ·simp only [Act.put, List.setIfInBounds_toArray, List.set_cons_zero, List.set_cons_succ, i64_w, i32_w]
            rfl
           refine pure_ (i := 7) (N := some 88) (v := ?_) (a' := ?_) #[true, true, true, true, true, true, true, true, false, false, false, false, false, false, false, false, false, false, false, false, false, false, false, false, false, false, false, false, false, false, false, false, false, false, false, false, false, false, false, false, false, false, false] rfl rfl (any_of HT_.out (by kernel_rfl)) (fun _ _ _ h => h) (Or.inl ⟨by rfl, ?_⟩) ?_ ?_
           rotate_left
           ·intro w'
            go_simp
            with_reducible rfl
           rotate_left
           ·simp only [Act.put, List.setIfInBounds_toArray, List.set_cons_zero, List.set_cons_succ, i64_w, i32_w]
            rfl
           refine pure_ (i := 8) (N := some 89) (v := ?_) (a' := ?_) #[true, true, true, true, true, true, true, true, true, false, false, false, false, false, false, false, false, false, false, false, false, false, false, false, false, false, false, false, false, false, false, false, false, false, false, false, false, false, false, false, false, false, false] rfl rfl (any_of HT_.out (by kernel_rfl)) (fun _ _ _ h => h) (Or.inl ⟨by rfl, ?_⟩) ?_ ?_
           rotate_left
           ·intro w'
            go_simp
            with_reducible rfl
           rotate_left
           ·simp only [Act.put, List.setIfInBounds_toArray, List.set_cons_zero, List.set_cons_succ, i64_w, i32_w]
            rfl
           refine pure_ (i := 9) (N := some 90) (v := ?_) (a' := ?_) #[true, true, true, true, true, true, true, true, true, true, false, false, false, false, false, false, false, false, false, false, false, false, false, false, false, false, false, false, false, false, false, false, false, false, false, false, false, false, false, false, false, false, false] rfl rfl (any_of HT_.out (by kernel_rfl)) (fun _ _ _ h => h) (Or.inl ⟨by rfl, ?_⟩) ?_ ?_
           rotate_left
           ·intro w'
            go_simp
            with_reducible rfl
           rotate_left
           ·simp only [Act.put, List.setIfInBounds_toArray, List.set_cons_zero, List.set_cons_succ, i64_w, i32_w]
            rfl
           refine pure_ (i := 10) (N := some 91) (v := ?_) (a' := ?_) #[true, true, true, true, true, true, true, true, true, true, true, false, false, false, false, false, false, false, false, false, false, false, false, false, false, false, false, false, false, false, false, false, false, false, false, false, false, false, false, false, false, false, false] rfl rfl (any_of HT_.out (by kernel_rfl)) (fun _ _ _ h => h) (Or.inl ⟨by rfl, ?_⟩) ?_ ?_
           rotate_left
           ·intro w'
            go_simp
            with_reducible rfl
           rotate_left
           ·simp only [Act.put, List.setIfInBounds_toArray, List.set_cons_zero, List.set_cons_succ, i64_w, i32_w]
            rfl
           refine pure_ (i := 11) (N := some 92) (v := ?_) (a' := ?_) #[true, true, true, true, true, true, true, true, true, true, true, true, false, false, false, false, false, false, false, false, false, false, false, false, false, false, false, false, false, false, false, false, false, false, false, false, false, false, false, false, false, false, false] rfl rfl (any_of HT_.out (by kernel_rfl)) (fun _ _ _ h => h) (Or.inl ⟨by rfl, ?_⟩) ?_ ?_
           rotate_left
           ·intro w'
            go_simp
            with_reducible rfl
           rotate_left
           ·simp only [Act.put, List.setIfInBounds_toArray, List.set_cons_zero, List.set_cons_succ, i64_w, i32_w]
            rfl
           refine pure_ (i := 12) (N := some 93) (v := ?_) (a' := ?_) #[true, true, true, true, true, true, true, true, true, true, true, true, true, false, false, false, false, false, false, false, false, false, false, false, false, false, false, false, false, false, false, false, false, false, false, false, false, false, false, false, false, false, false] rfl rfl (any_of HT_.out (by kernel_rfl)) (fun _ _ _ h => h) (Or.inl ⟨by rfl, ?_⟩) ?_ ?_
           rotate_left
           ·intro w'
            go_simp
            with_reducible rfl
           rotate_left
           ·simp only [Act.put, List.setIfInBounds_toArray, List.set_cons_zero, List.set_cons_succ, i64_w, i32_w]
            rfl
           refine pure_ (i := 13) (N := some 94) (v := ?_) (a' := ?_) #[true, true, true, true, true, true, true, true, true, true, true, true, true, true, false, false, false, false, false, false, false, false, false, false, false, false, false, false, false, false, false, false, false, false, false, false, false, false, false, false, false, false, false] rfl rfl (any_of HT_.out (by kernel_rfl)) (fun _ _ _ h => h) (Or.inl ⟨by rfl, ?_⟩) ?_ ?_
           rotate_left
           ·intro w'
            go_simp
            with_reducible rfl
           rotate_left
           ·simp only [Act.put, List.setIfInBounds_toArray, List.set_cons_zero, List.set_cons_succ, i64_w, i32_w]
            rfl
           refine pure_ (i := 14) (N := some 95) (v := ?_) (a' := ?_) #[true, true, true, true, true, true, true, true, true, true, true, true, true, true, true, false, false, false, false, false, false, false, false, false, false, false, false, false, false, false, false, false, false, false, false, false, false, false, false, false, false, false, false] rfl rfl (any_of HT_.out (by kernel_rfl)) (fun _ _ _ h => h) (Or.inl ⟨by rfl, ?_⟩) ?_ ?_
           rotate_left
           ·intro w'
            go_simp
            with_reducible rfl
           rotate_left
           ·simp only [Act.put, List.setIfInBounds_toArray, List.set_cons_zero, List.set_cons_succ, i64_w, i32_w]
            rfl
           refine pure_ (i := 15) (N := some 96) (v := ?_) (a' := ?_) #[true, true, true, true, true, true, true, true, true, true, true, true, true, true, true, true, false, false, false, false, false, false, false, false, false, false, false, false, false, false, false, false, false, false, false, false, false, false, false, false, false, false, false] rfl rfl (any_of HT_.out (by kernel_rfl)) (fun _ _ _ h => h) (Or.inl ⟨by rfl, ?_⟩) ?_ ?_
           rotate_left
           ·intro w'
            go_simp
            with_reducible rfl
           rotate_left
           ·simp only [Act.put, List.setIfInBounds_toArray, List.set_cons_zero, List.set_cons_succ, i64_w, i32_w]
            rfl
           refine pure_ (i := 16) (N := some 97) (v := ?_) (a' := ?_) #[true, true, true, true, true, true, true, true, true, true, true, true, true, true, true, true, true, false, false, false, false, false, false, false, false, false, false, false, false, false, false, false, false, false, false, false, false, false, false, false, false, false, false] rfl rfl (any_of HT_.out (by kernel_rfl)) (fun _ _ _ h => h) (Or.inl ⟨by rfl, ?_⟩) ?_ ?_
           rotate_left
           ·intro w'
            go_simp
            with_reducible rfl
           rotate_left
           ·simp only [Act.put, List.setIfInBounds_toArray, List.set_cons_zero, List.set_cons_succ, i64_w, i32_w]
            rfl
           refine pure_ (i := 17) (N := some 98) (v := ?_) (a' := ?_) #[true, true, true, true, true, true, true, true, true, true, true, true, true, true, true, true, true, true, false, false, false, false, false, false, false, false, false, false, false, false, false, false, false, false, false, false, false, false, false, false, false, false, false] rfl rfl (any_of HT_.out (by kernel_rfl)) (fun _ _ _ h => h) (Or.inl ⟨by rfl, ?_⟩) ?_ ?_
           rotate_left
           ·intro w'
            go_simp
            with_reducible rfl
           rotate_left
           ·simp only [Act.put, List.setIfInBounds_toArray, List.set_cons_zero, List.set_cons_succ, i64_w, i32_w]
            rfl
           refine pure_ (i := 18) (N := some 99) (v := ?_) (a' := ?_) #[true, true, true, true, true, true, true, true, true, true, true, true, true, true, true, true, true, true, true, false, false, false, false, false, false, false, false, false, false, false, false, false, false, false, false, false, false, false, false, false, false, false, false] rfl rfl (any_of HT_.out (by kernel_rfl)) (fun _ _ _ h => h) (Or.inl ⟨by rfl, ?_⟩) ?_ ?_
           rotate_left
           ·intro w'
            go_simp
            with_reducible rfl
           rotate_left
           ·simp only [Act.put, List.setIfInBounds_toArray, List.set_cons_zero, List.set_cons_succ, i64_w, i32_w]
            rfl
           refine pure_ (i := 19) (N := some 100) (v := ?_) (a' := ?_) #[true, true, true, true, true, true, true, true, true, true, true, true, true, true, true, true, true, true, true, true, false, false, false, false, false, false, false, false, false, false, false, false, false, false, false, false, false, false, false, false, false, false, false] rfl rfl (any_of HT_.out (by kernel_rfl)) (fun _ _ _ h => h) (Or.inl ⟨by rfl, ?_⟩) ?_ ?_
           rotate_left
           ·intro w'
            go_simp
            with_reducible rfl
           rotate_left
           ·simp only [Act.put, List.setIfInBounds_toArray, List.set_cons_zero, List.set_cons_succ, i64_w, i32_w]
            rfl
           refine pure_ (i := 20) (N := some 101) (v := ?_) (a' := ?_) #[true, true, true, true, true, true, true, true, true, true, true, true, true, true, true, true, true, true, true, true, true, false, false, false, false, false, false, false, false, false, false, false, false, false, false, false, false, false, false, false, false, false, false] rfl rfl (any_of HT_.out (by kernel_rfl)) (fun _ _ _ h => h) (Or.inl ⟨by rfl, ?_⟩) ?_ ?_
           rotate_left
           ·intro w'
            go_simp
            with_reducible rfl
           rotate_left
           ·simp only [Act.put, List.setIfInBounds_toArray, List.set_cons_zero, List.set_cons_succ, i64_w, i32_w]
            rfl
           refine pure_ (i := 21) (N := some 102) (v := ?_) (a' := ?_) #[true, true, true, true, true, true, true, true, true, true, true, true, true, true, true, true, true, true, true, true, true, true, false, false, false, false, false, false, false, false, false, false, false, false, false, false, false, false, false, false, false, false, false] rfl rfl (any_of HT_.out (by kernel_rfl)) (fun _ _ _ h => h) (Or.inl ⟨by rfl, ?_⟩) ?_ ?_
           rotate_left
           ·intro w'
            go_simp
            with_reducible rfl
           rotate_left
           ·simp only [Act.put, List.setIfInBounds_toArray, List.set_cons_zero, List.set_cons_succ, i64_w, i32_w]
            rfl
           refine pure_ (i := 22) (N := some 103) (v := ?_) (a' := ?_) #[true, true, true, true, true, true, true, true, true, true, true, true, true, true, true, true, true, true, true, true, true, true, true, false, false, false, false, false, false, false, false, false, false, false, false, false, false, false, false, false, false, false, false] rfl rfl (any_of HT_.out (by kernel_rfl)) (fun _ _ _ h => h) (Or.inl ⟨by rfl, ?_⟩) ?_ ?_
           rotate_left
           ·intro w'
            go_simp
            with_reducible rfl
           rotate_left
           ·simp only [Act.put, List.setIfInBounds_toArray, List.set_cons_zero, List.set_cons_succ, i64_w, i32_w]
            rfl
           refine pure_ (i := 23) (N := some 104) (v := ?_) (a' := ?_) #[true, true, true, true, true, true, true, true, true, true, true, true, true, true, true, true, true, true, true, true, true, true, true, true, false, false, false, false, false, false, false, false, false, false, false, false, false, false, false, false, false, false, false] rfl rfl (any_of HT_.out (by kernel_rfl)) (fun _ _ _ h => h) (Or.inl ⟨by rfl, ?_⟩) ?_ ?_
           rotate_left
           ·intro w'
            go_simp
            with_reducible rfl
           rotate_left
           ·simp only [Act.put, List.setIfInBounds_toArray, List.set_cons_zero, List.set_cons_succ, i64_w, i32_w]
            rfl
           refine pure_ (i := 24) (N := some 105) (v := ?_) (a' := ?_) #[true, true, true, true, true, true, true, true, true, true, true, true, true, true, true, true, true, true, true, true, true, true, true, true, true, false, false, false, false, false, false, false, false, false, false, false, false, false, false, false, false, false, false] rfl rfl (any_of HT_.out (by kernel_rfl)) (fun _ _ _ h => h) (Or.inl ⟨by rfl, ?_⟩) ?_ ?_
           rotate_left
           ·intro w'
            go_simp
            with_reducible rfl
           rotate_left
           ·simp only [Act.put, List.setIfInBounds_toArray, List.set_cons_zero, List.set_cons_succ, i64_w, i32_w]
            rfl
           refine take_ (i := 25) (N := some 106) (v := ?_) (a' := ?_) #[true, true, true, true, true, true, true, true, true, true, true, true, true, true, true, true, true, true, true, true, true, true, true, true, true, true, false, false, false, false, false, false, false, false, false, false, false, false, false, false, false, false, false] rfl rfl (take_ofW HT_.out HW_.out (by kernel_rfl)) (fun _ _ _ h => h) (Or.inl ⟨by rfl, ?_⟩) hHeld ?_ ?_
           rotate_left
           ·rintro w' ⟨s0, s1⟩
            go_simp
            with_reducible rfl
           rotate_left
           ·simp only [Act.put, List.setIfInBounds_toArray, List.set_cons_zero, List.set_cons_succ, i64_w, i32_w]
            rfl
           refine one_ (i := 26) (N := some 107) #[true, true, true, true, true, true, true, true, true, true, true, true, true, true, true, true, true, true, true, true, true, true, true, true, true, true, true, false, false, false, false, false, false, false, false, false, false, false, false, false, false, false, false] rfl rfl (one_of HT_.out (by kernel_rfl)) (by decide) (fun K hK => ?_)
           refine goes_ Try.func32 (by kernel_rfl) rfl #[.agg #[.int .i64 t315, .bool t316]] (by rfl) rfl rfl (by (try simp only [List.map_toArray, List.map_cons, List.map_nil]); first | done | rfl | (simp only [List.length_drop, List.length_take]; rfl)) ?_
           with_reducible refine (impl_IsWord.calls t315 t316 t329 _ A26.out).mono ?_
           rintro e w37 ⟨rfl, hb⟩
           refine ⟨_, rfl, ?_⟩
           have n0_ := Aside0.mk (blk_below (g := gb318) (o := .cells #[.int .i64 t315, .bool t316] 29 (0, 0)) (by (with_reducible repeat (first | refine blk_drewN ?_ _ | refine blk_drew ?_ | refine blk_alloc ?_ _)); exact BK318.out) hb)
           have n1_ := Aside0.mk (below_step (by repeat (first | (with_reducible first | exact HB.out | apply below_alloc | apply pw_below_drewN | apply below_drew1 | refine below_set ?_ GE318.out) | exact HB.out)) hb)
           clear BK318
           clear HB
           have BK318 := n0_
           have HB := n1_
           clear n0_ n1_
           (try clear hb)
           (try clear hb2)
           (try clear hk)
           (try clear hi)
           refine hK.out _ _ ⟨(blk_cell BK318.out 0).trans rfl, (blk_cell BK318.out 1).trans rfl⟩ (fun hHeld => ?_)
           clear hK K
           refine norm_ (a' := ?_) ?_ ?_
           rotate_left
           ·show Act.put _ (some 107) _ = _
            simp only [Act.put, List.setIfInBounds_toArray, List.set_cons_zero, List.set_cons_succ, i64_w, i32_w]
            rfl
           refine pure_ (i := 27) (N := some 108) (v := ?_) (a' := ?_) #[true, true, true, true, true, true, true, true, true, true, true, true, true, true, true, true, true, true, true, true, true, true, true, true, true, true, true, true, false, false, false, false, false, false, false, false, false, false, false, false, false, false, false] rfl rfl (any_of HT_.out (by kernel_rfl)) (fun _ _ _ h => h) (Or.inl ⟨by rfl, ?_⟩) ?_ ?_
           rotate_left
           ·intro w'
            go_simp
            with_reducible rfl
           rotate_left
           ·simp only [Act.put, List.setIfInBounds_toArray, List.set_cons_zero, List.set_cons_succ, i64_w, i32_w]
            rfl
           refine pure_ (i := 28) (N := some 109) (v := ?_) (a' := ?_) #[true, true, true, true, true, true, true, true, true, true, true, true, true, true, true, true, true, true, true, true, true, true, true, true, true, true, true, true, true, false, false, false, false, false, false, false, false, false, false, false, false, false, false] rfl rfl (any_of HT_.out (by kernel_rfl)) (fun _ _ _ h => h) (Or.inl ⟨by rfl, ?_⟩) ?_ ?_
           rotate_left
           ·intro w'
            go_simp
            with_reducible rfl
           rotate_left
           ·simp only [Act.put, List.setIfInBounds_toArray, List.set_cons_zero, List.set_cons_succ, i64_w, i32_w]
            rfl
           refine pure_ (i := 29) (N := some 110) (v := ?_) (a' := ?_) #[true, true, true, true, true, true, true, true, true, true, true, true, true, true, true, true, true, true, true, true, true, true, true, true, true, true, true, true, true, true, false, false, false, false, false, false, false, false, false, false, false, false, false] rfl rfl (any_of HT_.out (by kernel_rfl)) (fun _ _ _ h => h) (Or.inl ⟨by rfl, ?_⟩) ?_ ?_
           rotate_left
           ·intro w'
            go_simp
            with_reducible rfl
           rotate_left
           ·simp only [Act.put, List.setIfInBounds_toArray, List.set_cons_zero, List.set_cons_succ, i64_w, i32_w]
            rfl
           refine take_ (i := 30) (N := some 111) (v := ?_) (a' := ?_) #[true, true, true, true, true, true, true, true, true, true, true, true, true, true, true, true, true, true, true, true, true, true, true, true, true, true, true, true, true, true, true, false, false, false, false, false, false, false, false, false, false, false, false] rfl rfl (take_ofW HT_.out HW_.out (by kernel_rfl)) (fun _ _ _ h => h) (Or.inl ⟨by rfl, ?_⟩) hHeld ?_ ?_
           rotate_left
           ·rintro w' ⟨s0, s1⟩
            go_simp
            with_reducible rfl
           rotate_left
           ·simp only [Act.put, List.setIfInBounds_toArray, List.set_cons_zero, List.set_cons_succ, i64_w, i32_w]
            rfl
           refine take_ (i := 32) (N := some 113) (v := ?_) (a' := ?_) #[true, true, true, true, true, true, true, true, true, true, true, true, true, true, true, true, true, true, true, true, true, true, true, true, true, true, true, true, true, true, true, false, true, false, false, false, false, false, false, false, false, false, false] rfl rfl (take_ofW HT_.out HW_.out (by kernel_rfl)) (fun _ _ _ h => h) (Or.inl ⟨by rfl, ?_⟩) hHeld ?_ ?_
           rotate_left
           ·rintro w' ⟨s0, s1⟩
            go_simp
            with_reducible rfl
           rotate_left
           ·simp only [Act.put, List.setIfInBounds_toArray, List.set_cons_zero, List.set_cons_succ, i64_w, i32_w]
            rfl
           refine one_ (i := 31) (N := some 112) #[true, true, true, true, true, true, true, true, true, true, true, true, true, true, true, true, true, true, true, true, true, true, true, true, true, true, true, true, true, true, true, true, true, false, false, false, false, false, false, false, false, false, false] rfl rfl (one_of HT_.out (by kernel_rfl)) (by decide) (fun K hK => ?_)
           refine goes_ Try.func32 (by kernel_rfl) rfl #[.agg #[.int .i64 t315, .bool t316]] (by rfl) rfl rfl (by (try simp only [List.map_toArray, List.map_cons, List.map_nil]); first | done | rfl | (simp only [List.length_drop, List.length_take]; rfl)) ?_
           with_reducible refine (impl_IsWord.calls t315 t316 t329 _ A28.out).mono ?_
           rintro e w38 ⟨rfl, hb⟩
           refine ⟨_, rfl, ?_⟩
           have n0_ := Aside0.mk (blk_below (g := gb318) (o := .cells #[.int .i64 t315, .bool t316] 29 (0, 0)) (by (with_reducible repeat (first | refine blk_drewN ?_ _ | refine blk_drew ?_ | refine blk_alloc ?_ _)); exact BK318.out) hb)
           have n1_ := Aside0.mk (below_step (by repeat (first | (with_reducible first | exact HB.out | apply below_alloc | apply pw_below_drewN | apply below_drew1 | refine below_set ?_ GE318.out) | exact HB.out)) hb)
           clear BK318
           clear HB
           have BK318 := n0_
           have HB := n1_
           clear n0_ n1_
           (try clear hb)
           (try clear hb2)
           (try clear hk)
           (try clear hi)
           refine hK.out _ _ ⟨(blk_cell BK318.out 0).trans rfl, (blk_cell BK318.out 1).trans rfl⟩ (fun hHeld => ?_)
           clear hK K
           refine norm_ (a' := ?_) ?_ ?_
           rotate_left
           ·show Act.put _ (some 112) _ = _
            simp only [Act.put, List.setIfInBounds_toArray, List.set_cons_zero, List.set_cons_succ, i64_w, i32_w]
            rfl
           refine one_ (i := 33) (N := some 114) #[true, true, true, true, true, true, true, true, true, true, true, true, true, true, true, true, true, true, true, true, true, true, true, true, true, true, true, true, true, true, true, true, true, true, false, false, false, false, false, false, false, false, false] rfl rfl (one_of HT_.out (by kernel_rfl)) (by decide) (fun K hK => ?_)
           refine goes_ Try.func33 (by kernel_rfl) rfl #[.agg #[.int .i64 t315, .bool t316]] (by rfl) rfl rfl (by (try simp only [List.map_toArray, List.map_cons, List.map_nil]); first | done | rfl | (simp only [List.length_drop, List.length_take]; rfl)) ?_
           with_reducible refine (spec_IsWord.calls t315 t316 t331 _ A29.out).mono ?_
           rintro e w39 ⟨rfl, hb⟩
           refine ⟨_, rfl, ?_⟩
           have n0_ := Aside0.mk (blk_below (g := gb318) (o := .cells #[.int .i64 t315, .bool t316] 29 (0, 0)) (by (with_reducible repeat (first | refine blk_drewN ?_ _ | refine blk_drew ?_ | refine blk_alloc ?_ _)); exact BK318.out) hb)
           have n1_ := Aside0.mk (below_step (by repeat (first | (with_reducible first | exact HB.out | apply below_alloc | apply pw_below_drewN | apply below_drew1 | refine below_set ?_ GE318.out) | exact HB.out)) hb)
           clear BK318
           clear HB
           have BK318 := n0_
           have HB := n1_
           clear n0_ n1_
           (try clear hb)
           (try clear hb2)
           (try clear hk)
           (try clear hi)
           refine hK.out _ _ ⟨(blk_cell BK318.out 0).trans rfl, (blk_cell BK318.out 1).trans rfl⟩ (fun hHeld => ?_)
           clear hK K
           refine norm_ (a' := ?_) ?_ ?_
           rotate_left
           ·show Act.put _ (some 114) _ = _
            simp only [Act.put, List.setIfInBounds_toArray, List.set_cons_zero, List.set_cons_succ, i64_w, i32_w]
            rfl
           refine pure_ (i := 34) (N := some 115) (v := ?_) (a' := ?_) #[true, true, true, true, true, true, true, true, true, true, true, true, true, true, true, true, true, true, true, true, true, true, true, true, true, true, true, true, true, true, true, true, true, true, true, false, false, false, false, false, false, false, false] rfl rfl (any_of HT_.out (by kernel_rfl)) (fun _ _ _ h => h) (Or.inl ⟨by rfl, ?_⟩) ?_ ?_
           rotate_left
           ·intro w'
            go_simp
            with_reducible rfl
           rotate_left
           ·simp only [Act.put, List.setIfInBounds_toArray, List.set_cons_zero, List.set_cons_succ, i64_w, i32_w]
            rfl
           refine pure_ (i := 35) (N := some 116) (v := ?_) (a' := ?_) #[true, true, true, true, true, true, true, true, true, true, true, true, true, true, true, true, true, true, true, true, true, true, true, true, true, true, true, true, true, true, true, true, true, true, true, true, false, false, false, false, false, false, false] rfl rfl (any_of HT_.out (by kernel_rfl)) (fun _ _ _ h => h) (Or.inl ⟨by rfl, ?_⟩) ?_ ?_
           rotate_left
           ·intro w'
            go_simp
            with_reducible rfl
           rotate_left
           ·simp only [Act.put, List.setIfInBounds_toArray, List.set_cons_zero, List.set_cons_succ, i64_w, i32_w]
            rfl
           refine pure_ (i := 36) (N := some 117) (v := ?_) (a' := ?_) #[true, true, true, true, true, true, true, true, true, true, true, true, true, true, true, true, true, true, true, true, true, true, true, true, true, true, true, true, true, true, true, true, true, true, true, true, true, false, false, false, false, false, false] rfl rfl (any_of HT_.out (by kernel_rfl)) (fun _ _ _ h => h) (Or.inl ⟨by rfl, ?_⟩) ?_ ?_
           rotate_left
           ·intro w'
            go_simp
            with_reducible rfl
           rotate_left
           ·simp only [Act.put, List.setIfInBounds_toArray, List.set_cons_zero, List.set_cons_succ, i64_w, i32_w]
            rfl
           refine pure_ (i := 37) (N := some 118) (v := ?_) (a' := ?_) #[true, true, true, true, true, true, true, true, true, true, true, true, true, true, true, true, true, true, true, true, true, true, true, true, true, true, true, true, true, true, true, true, true, true, true, true, true, true, false, false, false, false, false] rfl rfl (any_of HT_.out (by kernel_rfl)) (fun _ _ _ h => h) (Or.inl ⟨by rfl, ?_⟩) ?_ ?_
           rotate_left
           ·intro w'
            go_simp
            with_reducible rfl
           rotate_left
           ·simp only [Act.put, List.setIfInBounds_toArray, List.set_cons_zero, List.set_cons_succ, i64_w, i32_w]
            rfl
           refine pure_ (i := 38) (N := some 119) (v := ?_) (a' := ?_) #[true, true, true, true, true, true, true, true, true, true, true, true, true, true, true, true, true, true, true, true, true, true, true, true, true, true, true, true, true, true, true, true, true, true, true, true, true, true, true, false, false, false, false] rfl rfl (any_of HT_.out (by kernel_rfl)) (fun _ _ _ h => h) (Or.inl ⟨by rfl, ?_⟩) ?_ ?_
           rotate_left
           ·intro w'
            go_simp
            with_reducible rfl
           rotate_left
           ·simp only [Act.put, List.setIfInBounds_toArray, List.set_cons_zero, List.set_cons_succ, i64_w, i32_w]
            rfl
           refine pure_ (i := 39) (N := some 120) (v := undef) (a' := ?_) #[true, true, true, true, true, true, true, true, true, true, true, true, true, true, true, true, true, true, true, true, true, true, true, true, true, true, true, true, true, true, true, true, true, true, true, true, true, true, true, true, false, false, false] rfl rfl (any_of HT_.out (by kernel_rfl)) (fun _ _ _ h => h) (Or.inr ⟨by rfl, rfl⟩) ?_ ?_
           rotate_left
           ·simp only [Act.put, List.setIfInBounds_toArray, List.set_cons_zero, List.set_cons_succ, i64_w, i32_w]
            rfl
           refine pure_ (i := 40) (N := some 121) (v := undef) (a' := ?_) #[true, true, true, true, true, true, true, true, true, true, true, true, true, true, true, true, true, true, true, true, true, true, true, true, true, true, true, true, true, true, true, true, true, true, true, true, true, true, true, true, true, false, false] rfl rfl (any_of HT_.out (by kernel_rfl)) (fun _ _ _ h => h) (Or.inr ⟨by rfl, rfl⟩) ?_ ?_
           rotate_left
           ·simp only [Act.put, List.setIfInBounds_toArray, List.set_cons_zero, List.set_cons_succ, i64_w, i32_w]
            rfl
           refine pure_ (i := 41) (N := some 122) (v := ?_) (a' := ?_) #[true, true, true, true, true, true, true, true, true, true, true, true, true, true, true, true, true, true, true, true, true, true, true, true, true, true, true, true, true, true, true, true, true, true, true, true, true, true, true, true, true, true, false] rfl rfl (any_of HT_.out (by kernel_rfl)) (fun _ _ _ h => h) (Or.inl ⟨by rfl, ?_⟩) ?_ ?_
           rotate_left
           ·intro w'
            go_simp
            with_reducible rfl
           rotate_left
           ·simp only [Act.put, List.setIfInBounds_toArray, List.set_cons_zero, List.set_cons_succ, i64_w, i32_w]
            rfl
           refine pure_ (i := 42) (N := some 123) (v := ?_) (a' := ?_) #[true, true, true, true, true, true, true, true, true, true, true, true, true, true, true, true, true, true, true, true, true, true, true, true, true, true, true, true, true, true, true, true, true, true, true, true, true, true, true, true, true, true, true] rfl rfl (any_of HT_.out (by kernel_rfl)) (fun _ _ _ h => h) (Or.inl ⟨by rfl, ?_⟩) ?_ ?_
           rotate_left
           ·intro w'
            go_simp
            with_reducible rfl
           rotate_left
           ·simp only [Act.put, List.setIfInBounds_toArray, List.set_cons_zero, List.set_cons_succ, i64_w, i32_w]
            rfl
           refine done_ (done_of HT_.out (by kernel_rfl)) ?_
           try go_wp2
           go_meet
           case rel => exact ⟨_, (false), (by first | rfl | (simp; done) | (simp [*]; done)), H', ⟨by first | omega | exact Nat.le_refl _⟩, ⟨by (with_reducible repeat (first | refine blk_drewN ?_ _ | refine blk_drew ?_ | refine blk_alloc ?_ _)); exact BK318.out⟩, ⟨by repeat (first | (with_reducible first | exact HB.out | apply below_alloc | apply pw_below_drewN | apply below_drew1 | refine below_set ?_ GE318.out) | exact HB.out)⟩⟩
       ·rw [if_neg c25] at H
        have c25b0 : (t324 == t327) = false := beq_eq_false_iff_ne.mpr c25
        have c25b1 : (t324 != t327) = true := bne_iff_ne.mpr c25
        exact absurd H (by have hr_ := HRT.out; cases k <;> simp [laws_FnWordsFit.j0, hr_])
      ·rw [if_neg c24] at H
       have c24b0 : (t323 == t326) = false := beq_eq_false_iff_ne.mpr c24
       have c24b1 : (t323 != t326) = true := bne_iff_ne.mpr c24
       exact absurd H (by have hr_ := HRT.out; cases k <;> simp [laws_FnWordsFit.j0, hr_])
    ·rw [if_neg c22] at H
     have c22b0 : (t319 == t321) = false := beq_eq_false_iff_ne.mpr c22
     have c22b1 : (t319 != t321) = true := bne_iff_ne.mpr c22
     exact absurd H (by have hr_ := HRT.out; cases k <;> simp [laws_FnWordsFit.j0, hr_])
  case rest => as_aux_lemma =>
   clear HC10
   try clear c2
   try clear p2
   try clear c3
   try clear c22
   try clear c22b0
   try clear c22b1
   try clear c24
   try clear c24b0
   try clear c24b1
   try clear c25
   try clear c25b0
   try clear c25b1
   try clear c31
   try clear c32
   try clear c33
   obtain ⟨kq, x123_9, rfl, HA, HJ9, BK318, HB⟩ := hcut
   cases kq with
   | zero => exact absurd HA.out (by simp [laws_FnWordsFit.j0])
   | succ kj9 =>
    have H := HA.out
    clear HA
    simp only [laws_FnWordsFit.j0] at H
    by_cases c40 : x123_9 = true
    ·as_aux_lemma =>
      subst c40
      have H1 := H
      rw [if_pos rfl] at H1
      clear H
      have H := H1
      clear H1
      exact absurd ((Option.some.inj H).trans HRT.out) (by decide)
    ·replace c40 := Bool.eq_false_iff.mpr c40
     subst c40
     have H1 := H
     rw [if_neg (show ¬ (false = true) by decide)] at H1
     clear H
     have H := H1
     clear H1
     have HC41 := Aside0.mk H
     clear H
     go_upto_if 124 with (fail)
     go_cut [] (fun wc => ∃ (kq : Nat), Aside0 (laws_FnWordsFit.j2 kq l1 = some r) ∧ Aside0 (kq ≤ kj9) ∧ Aside0 (wc.heap[gb318]? = some (.cells #[.int .i64 t315, .bool t316] 29 (0, 0))) ∧ Aside0 (Below w.heap.size w wc))
     case first => as_aux_lemma =>
      have H := HC41.out
      clear HC41
      by_cases c42 : t320 = true
      ·subst c42
       have H1 := H
       rw [if_pos rfl] at H1
       clear H
       have H := H1
       clear H1
       replace H := Option.bind_eq_some_iff.mp H
       obtain ⟨⟨t332, t333⟩, A430, H⟩ := H
       (try dsimp only at H)
       have A43 := Aside0.mk A430
       clear A430
       have HC44 := Aside0.mk H
       clear H
       have hcz45_0 : wc.cell? ⟨gb318, 0, none⟩ = some (.int .i64 t315) := (blk_cell BK318.out 0).trans rfl
       have hcz45_1 : wc.cell? ⟨gb318, 1, none⟩ = some (.bool t316) := (blk_cell BK318.out 1).trans rfl
       have hfz45_0 := blk_frozen BK318.out 0
       have hfz45_1 := blk_frozen BK318.out 1
       go_upto_region 12 with (first | ((with_reducible refine gate_callee (f := 28) rfl ?_); refine goesL_ (some 128) rfl rfl Try.func28 (by kernel_rfl) rfl #[.agg #[.int .i64 t315, .bool t316], .int .i64 t319] rfl (by (try simp only [List.map_toArray, List.map_cons, List.map_nil]); first | done | rfl | (simp only [List.length_drop, List.length_take]; rfl)) ?_; (with_reducible refine (impl_FitNumber.calls t315 t316 t319 t332 t333 _ A43.out).mono ?_); rintro e w46 ⟨rfl, hb⟩; refine ⟨_, rfl, ?_⟩; have n0_ := Aside0.mk (blk_below (g := gb318) (o := .cells #[.int .i64 t315, .bool t316] 29 (0, 0)) (by (with_reducible repeat (first | refine blk_drewN ?_ _ | refine blk_drew ?_ | refine blk_alloc ?_ _)); exact BK318.out) hb); have n1_ := Aside0.mk (below_step (by repeat (first | (with_reducible first | exact HB.out | apply below_alloc | apply pw_below_drewN | apply below_drew1 | refine below_set ?_ GE318.out) | exact HB.out)) hb); clear BK318; clear HB; have BK318 := n0_; have HB := n1_; clear n0_ n1_; (try clear hb); (try clear hb2); (try clear hk); (try clear hi)))
       (try simp only [Act.put, List.setIfInBounds_toArray, List.set_cons_zero, List.set_cons_succ])
       go_cut [163] (fun v163 wc => ∃ (kq : Nat) (x163_43 : Bool), v163 = .bool x163_43 ∧ Aside0 (laws_FnWordsFit.j1 kq l1 t317 t319 t323 t324 x163_43 t315 t316 = some r) ∧ Aside0 (kq ≤ kj9) ∧ Aside0 (wc.heap[gb318]? = some (.cells #[.int .i64 t315, .bool t316] 29 (0, 0))) ∧ Aside0 (Below w.heap.size w wc))
       case first => as_aux_lemma =>
        have H := HC44.out
        clear HC44
        by_cases c47 : t333 = true
        ·subst c47
         have H1 := H
         rw [if_pos rfl] at H1
         clear H
         have H := H1
         clear H1
         by_cases c48 : t332 = t319
         ·as_aux_lemma =>
           rw [if_pos c48] at H
           have c48b0 : (t332 == t319) = true := beq_iff_eq.mpr c48
           have c48b1 : (t332 != t319) = false := bne_eq_false_iff_eq.mpr c48
           clear c48
           (first | rw [c48b0] | (simp only [i64_w, i32_w]; rw [c48b0]) | skip)
           by_cases c49 : t319 < t323
           ·rw [if_pos c49] at H
            have c49b0 : decide (t319 < t323) = true := decide_eq_true c49
            clear c49
            exact absurd H (by have hr_ := HRT.out; cases kj9 <;> simp [laws_FnWordsFit.j1, hr_])
           ·rw [if_neg c49] at H
            have c49b0 : decide (t319 < t323) = false := decide_eq_false c49
            clear c49
            by_cases c50 : t319 > t324
            ·rw [if_pos c50] at H
             have c50b0 : decide (t324 < t319) = true := decide_eq_true c50
             clear c50
             exact absurd H (by have hr_ := HRT.out; cases kj9 <;> simp [laws_FnWordsFit.j1, hr_])
            ·rw [if_neg c50] at H
             have c50b0 : decide (t324 < t319) = false := decide_eq_false c50
             clear c50
             by_cases c51 : 0 ≤ t315
             ·rw [if_pos c51] at H
              have c51b0 := eq_true c51
              have c51b1 : decide (0 ≤ t315) = true := decide_eq_true c51
              clear c51
              obtain ⟨ji52, hji52⟩ : ∃ j_ : Int, (shl .i64 1 t315) = j_ := ⟨_, rfl⟩
              replace H : (if (wrap64 ((wrap64 (t324 - t323)) + 1)) = (ji52) then (laws_FnWordsFit.j1 kj9 l1 t317 t319 t323 t324 ((wrap64 (t323 + t324)) != (-1)) t315 t316) else (laws_FnWordsFit.j1 kj9 l1 t317 t319 t323 t324 true t315 t316)) = some r := by first | (rw [hji52] at H; exact H) | (simp only [hji52] at H ⊢; exact H)
              have hji52_ : (IntKind.i64.wrap (1 * 2 ^ min t315.toNat 64)) = ji52 := hji52
              have hji52z : t315 ≤ 64 → (IntKind.i64.wrap (1 * 2 ^ t315.toNat)) = ji52 := shl_small hji52
              have hji52u : (IntKind.i64.wrap (2 ^ min t315.toNat 64)) = ji52 := by have h_ := hji52_; rw [Int.one_mul] at h_; exact h_
              have hji52v : t315 ≤ 64 → (IntKind.i64.wrap (2 ^ t315.toNat)) = ji52 := fun hle_ => by have h_ := hji52z hle_; rw [Int.one_mul] at h_; exact h_
              have hji52y : (wrap64 (1 * 2 ^ min t315.toNat 64)) = ji52 := (i64_w _).symm.trans hji52_
              have hji52x : t315 ≤ 64 → (wrap64 (1 * 2 ^ t315.toNat)) = ji52 := fun h_ => (i64_w _).symm.trans (hji52z h_)
              by_cases c53 : (wrap64 ((wrap64 (t324 - t323)) + 1)) = (ji52)
              ·rw [if_pos c53] at H
               have c53b0 : ((wrap64 ((wrap64 (t324 - t323)) + 1)) == (ji52)) = true := beq_iff_eq.mpr c53
               have c53b1 : ((wrap64 ((wrap64 (t324 - t323)) + 1)) != (ji52)) = false := bne_eq_false_iff_eq.mpr c53
               clear c53
               have H' := Aside0.mk H
               clear H
               have hcz54_0 : w46.cell? ⟨gb318, 0, none⟩ = some (.int .i64 t315) := (blk_cell BK318.out 0).trans rfl
               have hcz54_1 : w46.cell? ⟨gb318, 1, none⟩ = some (.bool t316) := (blk_cell BK318.out 1).trans rfl
               have hfz54_0 := blk_frozen BK318.out 0
               have hfz54_1 := blk_frozen BK318.out 1
               go_wp2
               go_meet
               case rel => exact ⟨_, (((wrap64 (t323 + t324)) != (-1))), (by first | rfl | (simp; done) | (simp [*]; done)), H', ⟨by have := HJ9.out; first | omega | exact Nat.le_refl _⟩, ⟨by (with_reducible repeat (first | refine blk_drewN ?_ _ | refine blk_drew ?_ | refine blk_alloc ?_ _)); exact BK318.out⟩, ⟨by repeat (first | (with_reducible first | exact HB.out | apply below_alloc | apply pw_below_drewN | apply below_drew1 | refine below_set ?_ GE318.out) | exact HB.out)⟩⟩
              ·rw [if_neg c53] at H
               have c53b0 : ((wrap64 ((wrap64 (t324 - t323)) + 1)) == (ji52)) = false := beq_eq_false_iff_ne.mpr c53
               have c53b1 : ((wrap64 ((wrap64 (t324 - t323)) + 1)) != (ji52)) = true := bne_iff_ne.mpr c53
               exact absurd H (by have hr_ := HRT.out; cases kj9 <;> simp [laws_FnWordsFit.j1, hr_])
             ·rw [if_neg c51] at H
              exact absurd H (by simp)
         ·rw [if_neg c48] at H
          have c48b0 : (t332 == t319) = false := beq_eq_false_iff_ne.mpr c48
          have c48b1 : (t332 != t319) = true := bne_iff_ne.mpr c48
          (first | rw [c48b0] | (simp only [i64_w, i32_w]; rw [c48b0]) | skip)
          exact absurd H (by have hr_ := HRT.out; cases kj9 <;> simp [laws_FnWordsFit.j1, hr_])
        ·as_aux_lemma =>
          replace c47 := Bool.eq_false_iff.mpr c47
          subst c47
          have H1 := H
          rw [if_neg (show ¬ (false = true) by decide)] at H1
          clear H
          have H := H1
          clear H1
          exact absurd H (by have hr_ := HRT.out; cases kj9 <;> simp [laws_FnWordsFit.j1, hr_])
       case rest => as_aux_lemma =>
        clear HC44
        try clear c2
        try clear p2
        try clear c3
        try clear c4
        try clear c5
        try clear p6
        try clear c22
        try clear c22b0
        try clear c22b1
        try clear c24
        try clear c24b0
        try clear c24b1
        try clear c25
        try clear c25b0
        try clear c25b1
        try clear c28
        try clear c31
        try clear c32
        try clear c33
        try clear c40
        try clear c42
        try clear c47
        try clear c48
        try clear c48b0
        try clear c48b1
        try clear c49
        try clear c49b0
        try clear c50
        try clear c50b0
        try clear c51
        try clear c51b0
        try clear c51b1
        try clear c53
        try clear c53b0
        try clear c53b1
        try clear hcz45_0
        try clear hcz45_1
        try clear hcz54_0
        try clear hcz54_1
        try clear hfz45_0
        try clear hfz45_1
        try clear hfz54_0
        try clear hfz54_1
        try clear p2
        obtain ⟨kq, x163_43, rfl, HA, HJ43, BK318, HB⟩ := hcut
        cases kq with
        | zero => exact absurd HA.out (by simp [laws_FnWordsFit.j1])
        | succ kj43 =>
         have H := HA.out
         clear HA
         simp only [laws_FnWordsFit.j1] at H
         by_cases c55 : x163_43 = true
         ·as_aux_lemma =>
           subst c55
           have H1 := H
           rw [if_pos rfl] at H1
           clear H
           have H := H1
           clear H1
           exact absurd ((Option.some.inj H).trans HRT.out) (by decide)
         ·replace c55 := Bool.eq_false_iff.mpr c55
          subst c55
          have H1 := H
          rw [if_neg (show ¬ (false = true) by decide)] at H1
          clear H
          have H := H1
          clear H1
          by_cases c56 : t316 = true
          ·as_aux_lemma =>
            subst c56
            have H1 := H
            rw [if_pos rfl] at H1
            clear H
            have H := H1
            clear H1
            by_cases c57 : 0 ≤ t315
            ·rw [if_pos c57] at H
             have c57b0 := eq_true c57
             have c57b1 : decide (0 ≤ t315) = true := decide_eq_true c57
             clear c57
             obtain ⟨ji58, hji58⟩ : ∃ j_ : Int, (shl .i64 1 t315) = j_ := ⟨_, rfl⟩
             replace H : (if (ji58) = 0 then (none) else (if (Int.tmod (wrap64 (t317 - t319)) (ji58)) = 0 then (laws_FnWordsFit.j2 kj43 l1) else (some false))) = some r := by first | (rw [hji58] at H; exact H) | (simp only [hji58] at H ⊢; exact H)
             have hji58_ : (IntKind.i64.wrap (1 * 2 ^ min t315.toNat 64)) = ji58 := hji58
             have hji58z : t315 ≤ 64 → (IntKind.i64.wrap (1 * 2 ^ t315.toNat)) = ji58 := shl_small hji58
             have hji58u : (IntKind.i64.wrap (2 ^ min t315.toNat 64)) = ji58 := by have h_ := hji58_; rw [Int.one_mul] at h_; exact h_
             have hji58v : t315 ≤ 64 → (IntKind.i64.wrap (2 ^ t315.toNat)) = ji58 := fun hle_ => by have h_ := hji58z hle_; rw [Int.one_mul] at h_; exact h_
             have hji58y : (wrap64 (1 * 2 ^ min t315.toNat 64)) = ji58 := (i64_w _).symm.trans hji58_
             have hji58x : t315 ≤ 64 → (wrap64 (1 * 2 ^ t315.toNat)) = ji58 := fun h_ => (i64_w _).symm.trans (hji58z h_)
             by_cases c59 : (ji58) = 0
             ·rw [if_pos c59] at H
              exact absurd H (by simp)
             ·rw [if_neg c59] at H
              have c59b0 : ((ji58) == 0) = false := beq_eq_false_iff_ne.mpr c59
              have c59b1 : ((ji58) != 0) = true := bne_iff_ne.mpr c59
              by_cases c60 : (Int.tmod (wrap64 (t317 - t319)) (ji58)) = 0
              ·rw [if_pos c60] at H
               have c60b0 : ((Int.tmod (wrap64 (t317 - t319)) (ji58)) == 0) = true := beq_iff_eq.mpr c60
               have c60b1 : ((Int.tmod (wrap64 (t317 - t319)) (ji58)) != 0) = false := bne_eq_false_iff_eq.mpr c60
               clear c60
               have H' := Aside0.mk H
               clear H
               have hcz61_0 : wc.cell? ⟨gb318, 0, none⟩ = some (.int .i64 t315) := (blk_cell BK318.out 0).trans rfl
               have hcz61_1 : wc.cell? ⟨gb318, 1, none⟩ = some (.bool true) := (blk_cell BK318.out 1).trans rfl
               have hfz61_0 := blk_frozen BK318.out 0
               have hfz61_1 := blk_frozen BK318.out 1
               go_wp2
               go_meet
               case rel => exact ⟨_, H', ⟨by have := HJ9.out; have := HJ43.out; first | omega | exact Nat.le_refl _⟩, ⟨by (with_reducible repeat (first | refine blk_drewN ?_ _ | refine blk_drew ?_ | refine blk_alloc ?_ _)); exact BK318.out⟩, ⟨by repeat (first | (with_reducible first | exact HB.out | apply below_alloc | apply pw_below_drewN | apply below_drew1 | refine below_set ?_ GE318.out) | exact HB.out)⟩⟩
              ·rw [if_neg c60] at H
               have c60b0 : ((Int.tmod (wrap64 (t317 - t319)) (ji58)) == 0) = false := beq_eq_false_iff_ne.mpr c60
               have c60b1 : ((Int.tmod (wrap64 (t317 - t319)) (ji58)) != 0) = true := bne_iff_ne.mpr c60
               exact absurd ((Option.some.inj H).trans HRT.out) (by decide)
            ·rw [if_neg c57] at H
             exact absurd H (by simp)
          ·replace c56 := Bool.eq_false_iff.mpr c56
           subst c56
           have H1 := H
           rw [if_neg (show ¬ (false = true) by decide)] at H1
           clear H
           have H := H1
           clear H1
           by_cases c62 : t317 ≥ t323
           ·rw [if_pos c62] at H
            have c62b0 : decide (t323 ≤ t317) = true := decide_eq_true c62
            clear c62
            by_cases c63 : t317 ≤ t324
            ·rw [if_pos c63] at H
             have c63b0 : decide (t317 ≤ t324) = true := decide_eq_true c63
             clear c63
             by_cases c64 : t319 = t317
             ·rw [if_pos c64] at H
              have c64b0 : (t319 == t317) = true := beq_iff_eq.mpr c64
              have c64b1 : (t319 != t317) = false := bne_eq_false_iff_eq.mpr c64
              clear c64
              by_cases c65 : t317 < t323
              ·as_aux_lemma =>
                rw [if_pos c65] at H
                have c65b0 : decide (t317 < t323) = true := decide_eq_true c65
                clear c65
                by_cases c66 : t319 = t323
                ·rw [if_pos c66] at H
                 have c66b0 : (t319 == t323) = true := beq_iff_eq.mpr c66
                 have c66b1 : (t319 != t323) = false := bne_eq_false_iff_eq.mpr c66
                 clear c66
                 by_cases c67 : t317 > t324
                 ·rw [if_pos c67] at H
                  have c67b0 : decide (t324 < t317) = true := decide_eq_true c67
                  clear c67
                  by_cases c68 : t319 = t324
                  ·rw [if_pos c68] at H
                   have c68b0 : (t319 == t324) = true := beq_iff_eq.mpr c68
                   have c68b1 : (t319 != t324) = false := bne_eq_false_iff_eq.mpr c68
                   clear c68
                   have H' := Aside0.mk H
                   clear H
                   have hcz69_0 : wc.cell? ⟨gb318, 0, none⟩ = some (.int .i64 t315) := (blk_cell BK318.out 0).trans rfl
                   have hcz69_1 : wc.cell? ⟨gb318, 1, none⟩ = some (.bool false) := (blk_cell BK318.out 1).trans rfl
                   have hfz69_0 := blk_frozen BK318.out 0
                   have hfz69_1 := blk_frozen BK318.out 1
                   go_wp2
                   go_meet
                   case rel => exact ⟨_, H', ⟨by have := HJ9.out; have := HJ43.out; first | omega | exact Nat.le_refl _⟩, ⟨by (with_reducible repeat (first | refine blk_drewN ?_ _ | refine blk_drew ?_ | refine blk_alloc ?_ _)); exact BK318.out⟩, ⟨by repeat (first | (with_reducible first | exact HB.out | apply below_alloc | apply pw_below_drewN | apply below_drew1 | refine below_set ?_ GE318.out) | exact HB.out)⟩⟩
                  ·rw [if_neg c68] at H
                   have c68b0 : (t319 == t324) = false := beq_eq_false_iff_ne.mpr c68
                   have c68b1 : (t319 != t324) = true := bne_iff_ne.mpr c68
                   exact absurd ((Option.some.inj H).trans HRT.out) (by decide)
                 ·rw [if_neg c67] at H
                  have c67b0 : decide (t324 < t317) = false := decide_eq_false c67
                  clear c67
                  have H' := Aside0.mk H
                  clear H
                  have hcz70_0 : wc.cell? ⟨gb318, 0, none⟩ = some (.int .i64 t315) := (blk_cell BK318.out 0).trans rfl
                  have hcz70_1 : wc.cell? ⟨gb318, 1, none⟩ = some (.bool false) := (blk_cell BK318.out 1).trans rfl
                  have hfz70_0 := blk_frozen BK318.out 0
                  have hfz70_1 := blk_frozen BK318.out 1
                  go_wp2
                  go_meet
                  case rel => exact ⟨_, H', ⟨by have := HJ9.out; have := HJ43.out; first | omega | exact Nat.le_refl _⟩, ⟨by (with_reducible repeat (first | refine blk_drewN ?_ _ | refine blk_drew ?_ | refine blk_alloc ?_ _)); exact BK318.out⟩, ⟨by repeat (first | (with_reducible first | exact HB.out | apply below_alloc | apply pw_below_drewN | apply below_drew1 | refine below_set ?_ GE318.out) | exact HB.out)⟩⟩
                ·rw [if_neg c66] at H
                 have c66b0 : (t319 == t323) = false := beq_eq_false_iff_ne.mpr c66
                 have c66b1 : (t319 != t323) = true := bne_iff_ne.mpr c66
                 exact absurd ((Option.some.inj H).trans HRT.out) (by decide)
              ·as_aux_lemma =>
                rw [if_neg c65] at H
                have c65b0 : decide (t317 < t323) = false := decide_eq_false c65
                clear c65
                by_cases c71 : t317 > t324
                ·rw [if_pos c71] at H
                 have c71b0 : decide (t324 < t317) = true := decide_eq_true c71
                 clear c71
                 by_cases c72 : t319 = t324
                 ·rw [if_pos c72] at H
                  have c72b0 : (t319 == t324) = true := beq_iff_eq.mpr c72
                  have c72b1 : (t319 != t324) = false := bne_eq_false_iff_eq.mpr c72
                  clear c72
                  have H' := Aside0.mk H
                  clear H
                  have hcz73_0 : wc.cell? ⟨gb318, 0, none⟩ = some (.int .i64 t315) := (blk_cell BK318.out 0).trans rfl
                  have hcz73_1 : wc.cell? ⟨gb318, 1, none⟩ = some (.bool false) := (blk_cell BK318.out 1).trans rfl
                  have hfz73_0 := blk_frozen BK318.out 0
                  have hfz73_1 := blk_frozen BK318.out 1
                  go_wp2
                  go_meet
                  case rel => exact ⟨_, H', ⟨by have := HJ9.out; have := HJ43.out; first | omega | exact Nat.le_refl _⟩, ⟨by (with_reducible repeat (first | refine blk_drewN ?_ _ | refine blk_drew ?_ | refine blk_alloc ?_ _)); exact BK318.out⟩, ⟨by repeat (first | (with_reducible first | exact HB.out | apply below_alloc | apply pw_below_drewN | apply below_drew1 | refine below_set ?_ GE318.out) | exact HB.out)⟩⟩
                 ·rw [if_neg c72] at H
                  have c72b0 : (t319 == t324) = false := beq_eq_false_iff_ne.mpr c72
                  have c72b1 : (t319 != t324) = true := bne_iff_ne.mpr c72
                  exact absurd ((Option.some.inj H).trans HRT.out) (by decide)
                ·rw [if_neg c71] at H
                 have c71b0 : decide (t324 < t317) = false := decide_eq_false c71
                 clear c71
                 have H' := Aside0.mk H
                 clear H
                 have hcz74_0 : wc.cell? ⟨gb318, 0, none⟩ = some (.int .i64 t315) := (blk_cell BK318.out 0).trans rfl
                 have hcz74_1 : wc.cell? ⟨gb318, 1, none⟩ = some (.bool false) := (blk_cell BK318.out 1).trans rfl
                 have hfz74_0 := blk_frozen BK318.out 0
                 have hfz74_1 := blk_frozen BK318.out 1
                 go_wp2
                 go_meet
                 case rel => exact ⟨_, H', ⟨by have := HJ9.out; have := HJ43.out; first | omega | exact Nat.le_refl _⟩, ⟨by (with_reducible repeat (first | refine blk_drewN ?_ _ | refine blk_drew ?_ | refine blk_alloc ?_ _)); exact BK318.out⟩, ⟨by repeat (first | (with_reducible first | exact HB.out | apply below_alloc | apply pw_below_drewN | apply below_drew1 | refine below_set ?_ GE318.out) | exact HB.out)⟩⟩
             ·rw [if_neg c64] at H
              have c64b0 : (t319 == t317) = false := beq_eq_false_iff_ne.mpr c64
              have c64b1 : (t319 != t317) = true := bne_iff_ne.mpr c64
              exact absurd ((Option.some.inj H).trans HRT.out) (by decide)
            ·rw [if_neg c63] at H
             have c63b0 : decide (t317 ≤ t324) = false := decide_eq_false c63
             clear c63
             by_cases c75 : t317 < t323
             ·as_aux_lemma =>
               rw [if_pos c75] at H
               have c75b0 : decide (t317 < t323) = true := decide_eq_true c75
               clear c75
               by_cases c76 : t319 = t323
               ·rw [if_pos c76] at H
                have c76b0 : (t319 == t323) = true := beq_iff_eq.mpr c76
                have c76b1 : (t319 != t323) = false := bne_eq_false_iff_eq.mpr c76
                clear c76
                by_cases c77 : t317 > t324
                ·rw [if_pos c77] at H
                 have c77b0 : decide (t324 < t317) = true := decide_eq_true c77
                 clear c77
                 by_cases c78 : t319 = t324
                 ·rw [if_pos c78] at H
                  have c78b0 : (t319 == t324) = true := beq_iff_eq.mpr c78
                  have c78b1 : (t319 != t324) = false := bne_eq_false_iff_eq.mpr c78
                  clear c78
                  have H' := Aside0.mk H
                  clear H
                  have hcz79_0 : wc.cell? ⟨gb318, 0, none⟩ = some (.int .i64 t315) := (blk_cell BK318.out 0).trans rfl
                  have hcz79_1 : wc.cell? ⟨gb318, 1, none⟩ = some (.bool false) := (blk_cell BK318.out 1).trans rfl
                  have hfz79_0 := blk_frozen BK318.out 0
                  have hfz79_1 := blk_frozen BK318.out 1
                  go_wp2
                  go_meet
                  case rel => exact ⟨_, H', ⟨by have := HJ9.out; have := HJ43.out; first | omega | exact Nat.le_refl _⟩, ⟨by (with_reducible repeat (first | refine blk_drewN ?_ _ | refine blk_drew ?_ | refine blk_alloc ?_ _)); exact BK318.out⟩, ⟨by repeat (first | (with_reducible first | exact HB.out | apply below_alloc | apply pw_below_drewN | apply below_drew1 | refine below_set ?_ GE318.out) | exact HB.out)⟩⟩
                 ·rw [if_neg c78] at H
                  have c78b0 : (t319 == t324) = false := beq_eq_false_iff_ne.mpr c78
                  have c78b1 : (t319 != t324) = true := bne_iff_ne.mpr c78
                  exact absurd ((Option.some.inj H).trans HRT.out) (by decide)
                ·rw [if_neg c77] at H
                 have c77b0 : decide (t324 < t317) = false := decide_eq_false c77
                 clear c77
                 have H' := Aside0.mk H
                 clear H
                 have hcz80_0 : wc.cell? ⟨gb318, 0, none⟩ = some (.int .i64 t315) := (blk_cell BK318.out 0).trans rfl
                 have hcz80_1 : wc.cell? ⟨gb318, 1, none⟩ = some (.bool false) := (blk_cell BK318.out 1).trans rfl
                 have hfz80_0 := blk_frozen BK318.out 0
                 have hfz80_1 := blk_frozen BK318.out 1
                 go_wp2
                 go_meet
                 case rel => exact ⟨_, H', ⟨by have := HJ9.out; have := HJ43.out; first | omega | exact Nat.le_refl _⟩, ⟨by (with_reducible repeat (first | refine blk_drewN ?_ _ | refine blk_drew ?_ | refine blk_alloc ?_ _)); exact BK318.out⟩, ⟨by repeat (first | (with_reducible first | exact HB.out | apply below_alloc | apply pw_below_drewN | apply below_drew1 | refine below_set ?_ GE318.out) | exact HB.out)⟩⟩
               ·rw [if_neg c76] at H
                have c76b0 : (t319 == t323) = false := beq_eq_false_iff_ne.mpr c76
                have c76b1 : (t319 != t323) = true := bne_iff_ne.mpr c76
                exact absurd ((Option.some.inj H).trans HRT.out) (by decide)
             ·as_aux_lemma =>
               rw [if_neg c75] at H
               have c75b0 : decide (t317 < t323) = false := decide_eq_false c75
               clear c75
               by_cases c81 : t317 > t324
               ·rw [if_pos c81] at H
                have c81b0 : decide (t324 < t317) = true := decide_eq_true c81
                clear c81
                by_cases c82 : t319 = t324
                ·rw [if_pos c82] at H
                 have c82b0 : (t319 == t324) = true := beq_iff_eq.mpr c82
                 have c82b1 : (t319 != t324) = false := bne_eq_false_iff_eq.mpr c82
                 clear c82
                 have H' := Aside0.mk H
                 clear H
                 have hcz83_0 : wc.cell? ⟨gb318, 0, none⟩ = some (.int .i64 t315) := (blk_cell BK318.out 0).trans rfl
                 have hcz83_1 : wc.cell? ⟨gb318, 1, none⟩ = some (.bool false) := (blk_cell BK318.out 1).trans rfl
                 have hfz83_0 := blk_frozen BK318.out 0
                 have hfz83_1 := blk_frozen BK318.out 1
                 go_wp2
                 go_meet
                 case rel => exact ⟨_, H', ⟨by have := HJ9.out; have := HJ43.out; first | omega | exact Nat.le_refl _⟩, ⟨by (with_reducible repeat (first | refine blk_drewN ?_ _ | refine blk_drew ?_ | refine blk_alloc ?_ _)); exact BK318.out⟩, ⟨by repeat (first | (with_reducible first | exact HB.out | apply below_alloc | apply pw_below_drewN | apply below_drew1 | refine below_set ?_ GE318.out) | exact HB.out)⟩⟩
                ·rw [if_neg c82] at H
                 have c82b0 : (t319 == t324) = false := beq_eq_false_iff_ne.mpr c82
                 have c82b1 : (t319 != t324) = true := bne_iff_ne.mpr c82
                 exact absurd ((Option.some.inj H).trans HRT.out) (by decide)
               ·rw [if_neg c81] at H
                have c81b0 : decide (t324 < t317) = false := decide_eq_false c81
                clear c81
                have H' := Aside0.mk H
                clear H
                have hcz84_0 : wc.cell? ⟨gb318, 0, none⟩ = some (.int .i64 t315) := (blk_cell BK318.out 0).trans rfl
                have hcz84_1 : wc.cell? ⟨gb318, 1, none⟩ = some (.bool false) := (blk_cell BK318.out 1).trans rfl
                have hfz84_0 := blk_frozen BK318.out 0
                have hfz84_1 := blk_frozen BK318.out 1
                go_wp2
                go_meet
                case rel => exact ⟨_, H', ⟨by have := HJ9.out; have := HJ43.out; first | omega | exact Nat.le_refl _⟩, ⟨by (with_reducible repeat (first | refine blk_drewN ?_ _ | refine blk_drew ?_ | refine blk_alloc ?_ _)); exact BK318.out⟩, ⟨by repeat (first | (with_reducible first | exact HB.out | apply below_alloc | apply pw_below_drewN | apply below_drew1 | refine below_set ?_ GE318.out) | exact HB.out)⟩⟩
           ·rw [if_neg c62] at H
            have c62b0 : decide (t323 ≤ t317) = false := decide_eq_false c62
            clear c62
            by_cases c85 : t317 < t323
            ·as_aux_lemma =>
              rw [if_pos c85] at H
              have c85b0 : decide (t317 < t323) = true := decide_eq_true c85
              clear c85
              by_cases c86 : t319 = t323
              ·rw [if_pos c86] at H
               have c86b0 : (t319 == t323) = true := beq_iff_eq.mpr c86
               have c86b1 : (t319 != t323) = false := bne_eq_false_iff_eq.mpr c86
               clear c86
               by_cases c87 : t317 > t324
               ·rw [if_pos c87] at H
                have c87b0 : decide (t324 < t317) = true := decide_eq_true c87
                clear c87
                by_cases c88 : t319 = t324
                ·rw [if_pos c88] at H
                 have c88b0 : (t319 == t324) = true := beq_iff_eq.mpr c88
                 have c88b1 : (t319 != t324) = false := bne_eq_false_iff_eq.mpr c88
                 clear c88
                 have H' := Aside0.mk H
                 clear H
                 have hcz89_0 : wc.cell? ⟨gb318, 0, none⟩ = some (.int .i64 t315) := (blk_cell BK318.out 0).trans rfl
                 have hcz89_1 : wc.cell? ⟨gb318, 1, none⟩ = some (.bool false) := (blk_cell BK318.out 1).trans rfl
                 have hfz89_0 := blk_frozen BK318.out 0
                 have hfz89_1 := blk_frozen BK318.out 1
                 go_wp2
                 go_meet
                 case rel => exact ⟨_, H', ⟨by have := HJ9.out; have := HJ43.out; first | omega | exact Nat.le_refl _⟩, ⟨by (with_reducible repeat (first | refine blk_drewN ?_ _ | refine blk_drew ?_ | refine blk_alloc ?_ _)); exact BK318.out⟩, ⟨by repeat (first | (with_reducible first | exact HB.out | apply below_alloc | apply pw_below_drewN | apply below_drew1 | refine below_set ?_ GE318.out) | exact HB.out)⟩⟩
                ·rw [if_neg c88] at H
                 have c88b0 : (t319 == t324) = false := beq_eq_false_iff_ne.mpr c88
                 have c88b1 : (t319 != t324) = true := bne_iff_ne.mpr c88
                 exact absurd ((Option.some.inj H).trans HRT.out) (by decide)
               ·rw [if_neg c87] at H
                have c87b0 : decide (t324 < t317) = false := decide_eq_false c87
                clear c87
                have H' := Aside0.mk H
                clear H
                have hcz90_0 : wc.cell? ⟨gb318, 0, none⟩ = some (.int .i64 t315) := (blk_cell BK318.out 0).trans rfl
                have hcz90_1 : wc.cell? ⟨gb318, 1, none⟩ = some (.bool false) := (blk_cell BK318.out 1).trans rfl
                have hfz90_0 := blk_frozen BK318.out 0
                have hfz90_1 := blk_frozen BK318.out 1
                go_wp2
                go_meet
                case rel => exact ⟨_, H', ⟨by have := HJ9.out; have := HJ43.out; first | omega | exact Nat.le_refl _⟩, ⟨by (with_reducible repeat (first | refine blk_drewN ?_ _ | refine blk_drew ?_ | refine blk_alloc ?_ _)); exact BK318.out⟩, ⟨by repeat (first | (with_reducible first | exact HB.out | apply below_alloc | apply pw_below_drewN | apply below_drew1 | refine below_set ?_ GE318.out) | exact HB.out)⟩⟩
              ·rw [if_neg c86] at H
               have c86b0 : (t319 == t323) = false := beq_eq_false_iff_ne.mpr c86
               have c86b1 : (t319 != t323) = true := bne_iff_ne.mpr c86
               exact absurd ((Option.some.inj H).trans HRT.out) (by decide)
            ·as_aux_lemma =>
              rw [if_neg c85] at H
              have c85b0 : decide (t317 < t323) = false := decide_eq_false c85
              clear c85
              by_cases c91 : t317 > t324
              ·rw [if_pos c91] at H
               have c91b0 : decide (t324 < t317) = true := decide_eq_true c91
               clear c91
               by_cases c92 : t319 = t324
               ·rw [if_pos c92] at H
                have c92b0 : (t319 == t324) = true := beq_iff_eq.mpr c92
                have c92b1 : (t319 != t324) = false := bne_eq_false_iff_eq.mpr c92
                clear c92
                have H' := Aside0.mk H
                clear H
                have hcz93_0 : wc.cell? ⟨gb318, 0, none⟩ = some (.int .i64 t315) := (blk_cell BK318.out 0).trans rfl
                have hcz93_1 : wc.cell? ⟨gb318, 1, none⟩ = some (.bool false) := (blk_cell BK318.out 1).trans rfl
                have hfz93_0 := blk_frozen BK318.out 0
                have hfz93_1 := blk_frozen BK318.out 1
                go_wp2
                go_meet
                case rel => exact ⟨_, H', ⟨by have := HJ9.out; have := HJ43.out; first | omega | exact Nat.le_refl _⟩, ⟨by (with_reducible repeat (first | refine blk_drewN ?_ _ | refine blk_drew ?_ | refine blk_alloc ?_ _)); exact BK318.out⟩, ⟨by repeat (first | (with_reducible first | exact HB.out | apply below_alloc | apply pw_below_drewN | apply below_drew1 | refine below_set ?_ GE318.out) | exact HB.out)⟩⟩
               ·rw [if_neg c92] at H
                have c92b0 : (t319 == t324) = false := beq_eq_false_iff_ne.mpr c92
                have c92b1 : (t319 != t324) = true := bne_iff_ne.mpr c92
                exact absurd ((Option.some.inj H).trans HRT.out) (by decide)
              ·rw [if_neg c91] at H
               have c91b0 : decide (t324 < t317) = false := decide_eq_false c91
               clear c91
               have H' := Aside0.mk H
               clear H
               have hcz94_0 : wc.cell? ⟨gb318, 0, none⟩ = some (.int .i64 t315) := (blk_cell BK318.out 0).trans rfl
               have hcz94_1 : wc.cell? ⟨gb318, 1, none⟩ = some (.bool false) := (blk_cell BK318.out 1).trans rfl
               have hfz94_0 := blk_frozen BK318.out 0
               have hfz94_1 := blk_frozen BK318.out 1
               go_wp2
               go_meet
               case rel => exact ⟨_, H', ⟨by have := HJ9.out; have := HJ43.out; first | omega | exact Nat.le_refl _⟩, ⟨by (with_reducible repeat (first | refine blk_drewN ?_ _ | refine blk_drew ?_ | refine blk_alloc ?_ _)); exact BK318.out⟩, ⟨by repeat (first | (with_reducible first | exact HB.out | apply below_alloc | apply pw_below_drewN | apply below_drew1 | refine below_set ?_ GE318.out) | exact HB.out)⟩⟩
      ·as_aux_lemma =>
        replace c42 := Bool.eq_false_iff.mpr c42
        subst c42
        have H1 := H
        rw [if_neg (show ¬ (false = true) by decide)] at H1
        clear H
        have H := H1
        clear H1
        have H' := Aside0.mk H
        clear H
        go_wp2
        go_meet
        case rel => exact ⟨_, H', ⟨by have := HJ9.out; first | omega | exact Nat.le_refl _⟩, ⟨by (with_reducible repeat (first | refine blk_drewN ?_ _ | refine blk_drew ?_ | refine blk_alloc ?_ _)); exact BK318.out⟩, ⟨by repeat (first | (with_reducible first | exact HB.out | apply below_alloc | apply pw_below_drewN | apply below_drew1 | refine below_set ?_ GE318.out) | exact HB.out)⟩⟩
     case rest => as_aux_lemma =>
      clear HC41
      try clear c2
      try clear p2
      try clear c3
      try clear c4
      try clear c5
      try clear c6
      try clear p6
      try clear c7
      try clear c8
      try clear c9
      try clear c22
      try clear c22b0
      try clear c22b1
      try clear c24
      try clear c24b0
      try clear c24b1
      try clear c25
      try clear c25b0
      try clear c25b1
      try clear c28
      try clear c31
      try clear c32
      try clear c33
      try clear c40
      try clear c42
      try clear c47
      try clear c48
      try clear c48b0
      try clear c48b1
      try clear c49
      try clear c49b0
      try clear c50
      try clear c50b0
      try clear c51
      try clear c51b0
      try clear c51b1
      try clear c53
      try clear c53b0
      try clear c53b1
      try clear c55
      try clear c56
      try clear c57
      try clear c57b0
      try clear c57b1
      try clear c59
      try clear c59b0
      try clear c59b1
      try clear c60
      try clear c60b0
      try clear c60b1
      try clear c62
      try clear c62b0
      try clear c63
      try clear c63b0
      try clear c64
      try clear c64b0
      try clear c64b1
      try clear p64
      try clear c65
      try clear c65b0
      try clear c66
      try clear c66b0
      try clear c66b1
      try clear c67
      try clear c67b0
      try clear c68
      try clear c68b0
      try clear c68b1
      try clear c71
      try clear c71b0
      try clear c72
      try clear c72b0
      try clear c72b1
      try clear c75
      try clear c75b0
      try clear c76
      try clear c76b0
      try clear c76b1
      try clear c77
      try clear c77b0
      try clear c78
      try clear c78b0
      try clear c78b1
      try clear c81
      try clear c81b0
      try clear c82
      try clear c82b0
      try clear c82b1
      try clear c85
      try clear c85b0
      try clear c86
      try clear c86b0
      try clear c86b1
      try clear c87
      try clear c87b0
      try clear c88
      try clear c88b0
      try clear c88b1
      try clear c91
      try clear c91b0
      try clear c92
      try clear c92b0
      try clear c92b1
      try clear hcz45_0
      try clear hcz45_1
      try clear hcz54_0
      try clear hcz54_1
      try clear hcz61_0
      try clear hcz61_1
      try clear hcz69_0
      try clear hcz69_1
      try clear hcz70_0
      try clear hcz70_1
      try clear hcz73_0
      try clear hcz73_1
      try clear hcz74_0
      try clear hcz74_1
      try clear hcz79_0
      try clear hcz79_1
      try clear hcz80_0
      try clear hcz80_1
      try clear hcz83_0
      try clear hcz83_1
      try clear hcz84_0
      try clear hcz84_1
      try clear hcz89_0
      try clear hcz89_1
      try clear hcz90_0
      try clear hcz90_1
      try clear hcz93_0
      try clear hcz93_1
      try clear hcz94_0
      try clear hcz94_1
      try clear hfz45_0
      try clear hfz45_1
      try clear hfz54_0
      try clear hfz54_1
      try clear hfz61_0
      try clear hfz61_1
      try clear hfz69_0
      try clear hfz69_1
      try clear hfz70_0
      try clear hfz70_1
      try clear hfz73_0
      try clear hfz73_1
      try clear hfz74_0
      try clear hfz74_1
      try clear hfz79_0
      try clear hfz79_1
      try clear hfz80_0
      try clear hfz80_1
      try clear hfz83_0
      try clear hfz83_1
      try clear hfz84_0
      try clear hfz84_1
      try clear hfz89_0
      try clear hfz89_1
      try clear hfz90_0
      try clear hfz90_1
      try clear hfz93_0
      try clear hfz93_1
      try clear hfz94_0
      try clear hfz94_1
      try clear p2
      try clear p6
      obtain ⟨kq, HA, HJ40, BK318, HB⟩ := hcut
      cases kq with
      | zero => exact absurd HA.out (by simp [laws_FnWordsFit.j2])
      | succ kj40 =>
       have H := HA.out
       clear HA
       simp only [laws_FnWordsFit.j2] at H
       replace H := Option.bind_eq_some_iff.mp H
       obtain ⟨⟨t334, t335, t336, t337⟩, A950, H⟩ := H
       (try dsimp only at H)
       have A95 := Aside0.mk A950
       clear A950
       replace H := Option.bind_eq_some_iff.mp H
       obtain ⟨⟨t339, t340⟩, A960, H⟩ := H
       (try dsimp only at H)
       have A96 := Aside0.mk A960
       clear A960
       replace H := Option.bind_eq_some_iff.mp H
       obtain ⟨⟨t341, t342⟩, A970, H⟩ := H
       (try dsimp only at H)
       have A97 := Aside0.mk A970
       clear A970
       replace H := Option.bind_eq_some_iff.mp H
       obtain ⟨⟨t343, t344⟩, A980, H⟩ := H
       (try dsimp only at H)
       have A98 := Aside0.mk A980
       clear A980
       replace H := Option.bind_eq_some_iff.mp H
       obtain ⟨⟨t345, t346⟩, A990, H⟩ := H
       (try dsimp only at H)
       have A99 := Aside0.mk A990
       clear A990
       have HC100 := Aside0.mk H
       clear H
       go_upto_region 21 with (first | ((with_reducible refine gate_callee (f := 34) rfl ?_); refine goesL_ (some 218) rfl rfl Try.func34 (by kernel_rfl) rfl #[.slice A1 l1.length c1] rfl (by (try simp only [List.map_toArray, List.map_cons, List.map_nil]); first | done | rfl | (simp only [List.length_drop, List.length_take]; rfl)) ?_; (with_reducible refine (spec_DrawAddIn.calls kj40 _ _ l1 t334 t335 t336 t337 _ ?side1 ?side2 A95.out).mono ?_); (case side1 => repeat (first | exact (Kd.C_below HR1.out HB.out) | (with_reducible refine Kd.C_alloc ?_ _) | (with_reducible refine Kd.C_drewN ?_ _) | (with_reducible refine Kd.C_drew ?_))); (case side2 => exact HC1.out); rintro e w101 ⟨rfl, hb⟩; refine ⟨_, rfl, ?_⟩; have n0_ := Aside0.mk (blk_below (g := gb318) (o := .cells #[.int .i64 t315, .bool t316] 29 (0, 0)) (by (with_reducible repeat (first | refine blk_drewN ?_ _ | refine blk_drew ?_ | refine blk_alloc ?_ _)); exact BK318.out) hb); have n1_ := Aside0.mk (below_step (by repeat (first | (with_reducible first | exact HB.out | apply below_alloc | apply pw_below_drewN | apply below_drew1 | refine below_set ?_ GE318.out) | exact HB.out)) hb); clear BK318; clear HB; have BK318 := n0_; have HB := n1_; clear n0_ n1_; (try clear hb); (try clear hb2); (try clear hk); (try clear hi)) | ((with_reducible refine gate_dst (N := 19) rfl ?_); refine box_event ?hg (N := 19) ?hd (cs := #[.int .i64 0, .bool false]) (t := 29) ?hr ?_; (case hd => rfl); (case hg => rfl); (case hr => first | (go_simp; done) | (go_simp; rfl)); intro gb338 hg w102 hbox hb; have n0_ := Aside0.mk (blk_below (g := gb318) (o := .cells #[.int .i64 t315, .bool t316] 29 (0, 0)) (by (with_reducible repeat (first | refine blk_drewN ?_ _ | refine blk_drew ?_ | refine blk_alloc ?_ _)); exact BK318.out) hb); have n1_ := Aside0.mk (below_step (by repeat (first | (with_reducible first | exact HB.out | apply below_alloc | apply pw_below_drewN | apply below_drew1 | refine below_set ?_ GE318.out) | exact HB.out)) hb); have n2_ := Aside0.mk (hbox); have n3_ := Aside0.mk ((by rw [hg]; exact (below_size (by repeat (first | (with_reducible first | exact HB.out | apply below_alloc | apply pw_below_drewN | apply below_drew1 | refine below_set ?_ GE318.out) | exact HB.out))) : w.heap.size ≤ gb338)); have n4_ := Aside0.mk ((by rw [hg]; exact (below_size (by repeat (first | (with_reducible first | exact HB.out | apply below_alloc | apply pw_below_drewN | apply below_drew1 | refine below_set ?_ GE318.out) | exact HB.out))) : w.heap.size ≤ gb338)); have n5_ := Aside0.mk ((by rw [hg]; exact Nat.ne_of_lt (blk_lt (g := gb318) (o := .cells #[.int .i64 t315, .bool t316] 29 (0, 0)) (by (with_reducible repeat (first | refine blk_drewN ?_ _ | refine blk_drew ?_ | refine blk_alloc ?_ _)); exact BK318.out)) : gb318 ≠ gb338)); have n6_ := Aside0.mk ((by rw [hg]; exact Nat.ne_of_gt (blk_lt (g := gb318) (o := .cells #[.int .i64 t315, .bool t316] 29 (0, 0)) (by (with_reducible repeat (first | refine blk_drewN ?_ _ | refine blk_drew ?_ | refine blk_alloc ?_ _)); exact BK318.out)) : gb338 ≠ gb318)); clear BK318; clear HB; have BK318 := n0_; have HB := n1_; have BK338 := n2_; have GW338 := n3_; have GE338 := n4_; have NB318_338 := n5_; have NB338_318 := n6_; clear n0_ n1_ n2_ n3_ n4_ n5_ n6_; clear hb hbox hg; have hnb103 := NB338_318.out; have hnc103 := NB318_338.out; have hcz104_0 : w102.cell? ⟨gb338, 0, none⟩ = some (.int .i64 0) := (blk_cell BK338.out 0).trans rfl; have hcz104_1 : w102.cell? ⟨gb338, 1, none⟩ = some (.bool false) := (blk_cell BK338.out 1).trans rfl; have hfz104_0 := blk_frozen BK338.out 0; have hfz104_1 := blk_frozen BK338.out 1) | ((with_reducible refine gate_callee (f := 35) rfl ?_); refine goesL_ (some 226) rfl rfl Try.func35 (by kernel_rfl) rfl #[.agg #[.int .i64 t334, .bool t335], .int .i64 t336, .int .i64 t337] rfl (by (try simp only [List.map_toArray, List.map_cons, List.map_nil]); first | done | rfl | (simp only [List.length_drop, List.length_take]; rfl)) ?_; (with_reducible refine (impl_AddIn.calls t334 t335 t336 t337 t339 t340 _ A96.out).mono ?_); rintro e w105 ⟨rfl, hb⟩; refine ⟨_, rfl, ?_⟩; have n0_ := Aside0.mk (blk_below (g := gb318) (o := .cells #[.int .i64 t315, .bool t316] 29 (0, 0)) (by (with_reducible repeat (first | refine blk_drewN ?_ _ | refine blk_drew ?_ | refine blk_alloc ?_ _)); refine blk_far ?_ NB318_338.out _; (with_reducible repeat (first | refine blk_drewN ?_ _ | refine blk_drew ?_ | refine blk_alloc ?_ _)); refine blk_far ?_ NB318_338.out _; (with_reducible repeat (first | refine blk_drewN ?_ _ | refine blk_drew ?_ | refine blk_alloc ?_ _)); exact BK318.out) hb); have n1_ := Aside0.mk (blk_below (g := gb338) (o := .cells #[.int .i64 t334, .bool t335] 29 (0, 0)) (by (with_reducible repeat (first | refine blk_drewN ?_ _ | refine blk_drew ?_ | refine blk_alloc ?_ _)); refine blk_put (cs := #[.int .i64 t334, .bool false]) ?_ 1 _ rfl; (with_reducible repeat (first | refine blk_drewN ?_ _ | refine blk_drew ?_ | refine blk_alloc ?_ _)); refine blk_put (cs := #[.int .i64 0, .bool false]) ?_ 0 _ rfl; (with_reducible repeat (first | refine blk_drewN ?_ _ | refine blk_drew ?_ | refine blk_alloc ?_ _)); exact BK338.out) hb); have n2_ := Aside0.mk (below_step (by repeat (first | (with_reducible first | exact HB.out | apply below_alloc | apply pw_below_drewN | apply below_drew1 | refine below_set ?_ GE318.out | refine below_set ?_ GE338.out) | exact HB.out)) hb); clear BK318; clear BK338; clear HB; have BK318 := n0_; have BK338 := n1_; have HB := n2_; clear n0_ n1_ n2_; (try clear hb); (try clear hb2); (try clear hk); (try clear hi); have hcz106_0 : w105.cell? ⟨gb338, 0, none⟩ = some (.int .i64 t334) := (blk_cell BK338.out 0).trans rfl; have hcz106_1 : w105.cell? ⟨gb338, 1, none⟩ = some (.bool t335) := (blk_cell BK338.out 1).trans rfl; have hfz106_0 := blk_frozen BK338.out 0; have hfz106_1 := blk_frozen BK338.out 1) | ((with_reducible refine gate_callee (f := 36) rfl ?_); refine goesL_ (some 233) rfl rfl Try.func36 (by kernel_rfl) rfl #[.agg #[.int .i64 t334, .bool t335], .int .i64 t336, .int .i64 t337] rfl (by (try simp only [List.map_toArray, List.map_cons, List.map_nil]); first | done | rfl | (simp only [List.length_drop, List.length_take]; rfl)) ?_; (with_reducible refine (spec_AddIn.calls t334 t335 t336 t337 t341 t342 _ A97.out).mono ?_); rintro e w107 ⟨rfl, hb⟩; refine ⟨_, rfl, ?_⟩; have n0_ := Aside0.mk (blk_below (g := gb318) (o := .cells #[.int .i64 t315, .bool t316] 29 (0, 0)) (by (with_reducible repeat (first | refine blk_drewN ?_ _ | refine blk_drew ?_ | refine blk_alloc ?_ _)); exact BK318.out) hb); have n1_ := Aside0.mk (blk_below (g := gb338) (o := .cells #[.int .i64 t334, .bool t335] 29 (0, 0)) (by (with_reducible repeat (first | refine blk_drewN ?_ _ | refine blk_drew ?_ | refine blk_alloc ?_ _)); exact BK338.out) hb); have n2_ := Aside0.mk (below_step (by repeat (first | (with_reducible first | exact HB.out | apply below_alloc | apply pw_below_drewN | apply below_drew1 | refine below_set ?_ GE318.out | refine below_set ?_ GE338.out) | exact HB.out)) hb); clear BK318; clear BK338; clear HB; have BK318 := n0_; have BK338 := n1_; have HB := n2_; clear n0_ n1_ n2_; (try clear hb); (try clear hb2); (try clear hk); (try clear hi); have hcz108_0 : w107.cell? ⟨gb338, 0, none⟩ = some (.int .i64 t334) := (blk_cell BK338.out 0).trans rfl; have hcz108_1 : w107.cell? ⟨gb338, 1, none⟩ = some (.bool t335) := (blk_cell BK338.out 1).trans rfl; have hfz108_0 := blk_frozen BK338.out 0; have hfz108_1 := blk_frozen BK338.out 1) | ((with_reducible refine gate_callee (f := 37) rfl ?_); refine goesL_ (some 240) rfl rfl Try.func37 (by kernel_rfl) rfl #[.agg #[.int .i64 t334, .bool t335], .int .i64 t336, .int .i64 t337] rfl (by (try simp only [List.map_toArray, List.map_cons, List.map_nil]); first | done | rfl | (simp only [List.length_drop, List.length_take]; rfl)) ?_; (with_reducible refine (impl_LessIn.calls t334 t335 t336 t337 t343 t344 _ A98.out).mono ?_); rintro e w109 ⟨rfl, hb⟩; refine ⟨_, rfl, ?_⟩; have n0_ := Aside0.mk (blk_below (g := gb318) (o := .cells #[.int .i64 t315, .bool t316] 29 (0, 0)) (by (with_reducible repeat (first | refine blk_drewN ?_ _ | refine blk_drew ?_ | refine blk_alloc ?_ _)); exact BK318.out) hb); have n1_ := Aside0.mk (blk_below (g := gb338) (o := .cells #[.int .i64 t334, .bool t335] 29 (0, 0)) (by (with_reducible repeat (first | refine blk_drewN ?_ _ | refine blk_drew ?_ | refine blk_alloc ?_ _)); exact BK338.out) hb); have n2_ := Aside0.mk (below_step (by repeat (first | (with_reducible first | exact HB.out | apply below_alloc | apply pw_below_drewN | apply below_drew1 | refine below_set ?_ GE318.out | refine below_set ?_ GE338.out) | exact HB.out)) hb); clear BK318; clear BK338; clear HB; have BK318 := n0_; have BK338 := n1_; have HB := n2_; clear n0_ n1_ n2_; (try clear hb); (try clear hb2); (try clear hk); (try clear hi); have hcz110_0 : w109.cell? ⟨gb338, 0, none⟩ = some (.int .i64 t334) := (blk_cell BK338.out 0).trans rfl; have hcz110_1 : w109.cell? ⟨gb338, 1, none⟩ = some (.bool t335) := (blk_cell BK338.out 1).trans rfl; have hfz110_0 := blk_frozen BK338.out 0; have hfz110_1 := blk_frozen BK338.out 1) | ((with_reducible refine gate_callee (f := 38) rfl ?_); refine goesL_ (some 247) rfl rfl Try.func38 (by kernel_rfl) rfl #[.agg #[.int .i64 t334, .bool t335], .int .i64 t336, .int .i64 t337] rfl (by (try simp only [List.map_toArray, List.map_cons, List.map_nil]); first | done | rfl | (simp only [List.length_drop, List.length_take]; rfl)) ?_; (with_reducible refine (spec_LessIn.calls t334 t335 t336 t337 t345 t346 _ A99.out).mono ?_); rintro e w111 ⟨rfl, hb⟩; refine ⟨_, rfl, ?_⟩; have n0_ := Aside0.mk (blk_below (g := gb318) (o := .cells #[.int .i64 t315, .bool t316] 29 (0, 0)) (by (with_reducible repeat (first | refine blk_drewN ?_ _ | refine blk_drew ?_ | refine blk_alloc ?_ _)); exact BK318.out) hb); have n1_ := Aside0.mk (blk_below (g := gb338) (o := .cells #[.int .i64 t334, .bool t335] 29 (0, 0)) (by (with_reducible repeat (first | refine blk_drewN ?_ _ | refine blk_drew ?_ | refine blk_alloc ?_ _)); exact BK338.out) hb); have n2_ := Aside0.mk (below_step (by repeat (first | (with_reducible first | exact HB.out | apply below_alloc | apply pw_below_drewN | apply below_drew1 | refine below_set ?_ GE318.out | refine below_set ?_ GE338.out) | exact HB.out)) hb); clear BK318; clear BK338; clear HB; have BK318 := n0_; have BK338 := n1_; have HB := n2_; clear n0_ n1_ n2_; (try clear hb); (try clear hb2); (try clear hk); (try clear hi)))
       (try simp only [Act.put, List.setIfInBounds_toArray, List.set_cons_zero, List.set_cons_succ])
       go_cut [272] (fun v272 wc => ∃ (kq : Nat) (x272_99 : Bool), v272 = .bool x272_99 ∧ Aside0 (laws_FnWordsFit.j3 kq l1 t336 t337 t339 t340 x272_99 t334 t335 = some r) ∧ Aside0 (kq ≤ kj40) ∧ Aside0 (wc.heap[gb318]? = some (.cells #[.int .i64 t315, .bool t316] 29 (0, 0))) ∧ Aside0 (wc.heap[gb338]? = some (.cells #[.int .i64 t334, .bool t335] 29 (0, 0))) ∧ Aside0 (Below w.heap.size w wc))
       case first => as_aux_lemma =>
        have H := HC100.out
        clear HC100
        by_cases c112 : (t340 != t342) = true
        ·as_aux_lemma =>
          rw [if_pos c112] at H
          have c112b0 : (t340 != t342) = true := c112
          (try (have c112b1 : decide (t340 = t342) = false := by simpa using c112))
          (try (have c112b2 : (t340 == t342) = false := by simpa using c112))
          (try (have c112b3 : ¬ (t340 = t342) := by simpa using c112))
          clear c112
          (first | rw [c112b0] | (simp only [i64_w, i32_w]; rw [c112b0]) | skip)
          exact absurd H (by have hr_ := HRT.out; cases kj40 <;> simp [laws_FnWordsFit.j3, hr_])
        ·as_aux_lemma =>
          rw [if_neg c112] at H
          have c112b0 : (t340 != t342) = false := by simpa using c112
          (try (have c112b1 : decide (t340 = t342) = true := by simpa using c112))
          (try (have c112b2 : (t340 == t342) = true := by simpa using c112))
          clear c112
          (first | rw [c112b0] | (simp only [i64_w, i32_w]; rw [c112b0]) | skip)
          by_cases c113 : t339 = t341
          ·rw [if_pos c113] at H
           have c113b0 : (t339 == t341) = true := beq_iff_eq.mpr c113
           have c113b1 : (t339 != t341) = false := bne_eq_false_iff_eq.mpr c113
           clear c113
           by_cases c114 : (t344 != t346) = true
           ·rw [if_pos c114] at H
            have c114b0 : (t344 != t346) = true := c114
            (try (have c114b1 : decide (t344 = t346) = false := by simpa using c114))
            (try (have c114b2 : (t344 == t346) = false := by simpa using c114))
            (try (have c114b3 : ¬ (t344 = t346) := by simpa using c114))
            clear c114
            exact absurd H (by have hr_ := HRT.out; cases kj40 <;> simp [laws_FnWordsFit.j3, hr_])
           ·rw [if_neg c114] at H
            have c114b0 : (t344 != t346) = false := by simpa using c114
            (try (have c114b1 : decide (t344 = t346) = true := by simpa using c114))
            (try (have c114b2 : (t344 == t346) = true := by simpa using c114))
            clear c114
            by_cases c115 : t343 = t345
            ·rw [if_pos c115] at H
             have c115b0 : (t343 == t345) = true := beq_iff_eq.mpr c115
             have c115b1 : (t343 != t345) = false := bne_eq_false_iff_eq.mpr c115
             clear c115
             have H' := Aside0.mk H
             clear H
             go_wp2
             go_meet
             case rel => exact ⟨_, ((t340 != t344)), (by first | rfl | (simp; done) | (simp [*]; done)), H', ⟨by have := HJ9.out; have := HJ40.out; first | omega | exact Nat.le_refl _⟩, ⟨by (with_reducible repeat (first | refine blk_drewN ?_ _ | refine blk_drew ?_ | refine blk_alloc ?_ _)); exact BK318.out⟩, ⟨by (with_reducible repeat (first | refine blk_drewN ?_ _ | refine blk_drew ?_ | refine blk_alloc ?_ _)); exact BK338.out⟩, ⟨by repeat (first | (with_reducible first | exact HB.out | apply below_alloc | apply pw_below_drewN | apply below_drew1 | refine below_set ?_ GE318.out | refine below_set ?_ GE338.out) | exact HB.out)⟩⟩
            ·rw [if_neg c115] at H
             have c115b0 : (t343 == t345) = false := beq_eq_false_iff_ne.mpr c115
             have c115b1 : (t343 != t345) = true := bne_iff_ne.mpr c115
             exact absurd H (by have hr_ := HRT.out; cases kj40 <;> simp [laws_FnWordsFit.j3, hr_])
          ·rw [if_neg c113] at H
           have c113b0 : (t339 == t341) = false := beq_eq_false_iff_ne.mpr c113
           have c113b1 : (t339 != t341) = true := bne_iff_ne.mpr c113
           exact absurd H (by have hr_ := HRT.out; cases kj40 <;> simp [laws_FnWordsFit.j3, hr_])
       case rest => as_aux_lemma =>
        clear HC100
        try clear c1
        try clear c2
        try clear p2
        try clear c3
        try clear c4
        try clear c5
        try clear c6
        try clear p6
        try clear c7
        try clear c8
        try clear c9
        try clear c10
        try clear c11
        try clear c22
        try clear c22b0
        try clear c22b1
        try clear c24
        try clear c24b0
        try clear c24b1
        try clear c25
        try clear c25b0
        try clear c25b1
        try clear c28
        try clear c31
        try clear c32
        try clear c33
        try clear c34
        try clear c35
        try clear c36
        try clear c37
        try clear c38
        try clear c40
        try clear c42
        try clear c47
        try clear c48
        try clear c48b0
        try clear c48b1
        try clear c49
        try clear c49b0
        try clear c50
        try clear c50b0
        try clear c51
        try clear c51b0
        try clear c51b1
        try clear c53
        try clear c53b0
        try clear c53b1
        try clear c55
        try clear c56
        try clear c57
        try clear c57b0
        try clear c57b1
        try clear c59
        try clear c59b0
        try clear c59b1
        try clear c60
        try clear c60b0
        try clear c60b1
        try clear c62
        try clear c62b0
        try clear c63
        try clear c63b0
        try clear c64
        try clear c64b0
        try clear c64b1
        try clear p64
        try clear c65
        try clear c65b0
        try clear c66
        try clear c66b0
        try clear c66b1
        try clear c67
        try clear c67b0
        try clear c68
        try clear c68b0
        try clear c68b1
        try clear c71
        try clear c71b0
        try clear c72
        try clear c72b0
        try clear c72b1
        try clear c75
        try clear c75b0
        try clear c76
        try clear c76b0
        try clear c76b1
        try clear c77
        try clear c77b0
        try clear c78
        try clear c78b0
        try clear c78b1
        try clear c81
        try clear c81b0
        try clear c82
        try clear c82b0
        try clear c82b1
        try clear c85
        try clear c85b0
        try clear c86
        try clear c86b0
        try clear c86b1
        try clear c87
        try clear c87b0
        try clear c88
        try clear c88b0
        try clear c88b1
        try clear c91
        try clear c91b0
        try clear c92
        try clear c92b0
        try clear c92b1
        try clear c103
        try clear c112
        try clear c112b0
        try clear c112b1
        try clear c112b2
        try clear c113
        try clear c113b0
        try clear c113b1
        try clear c114
        try clear c114b0
        try clear c114b1
        try clear c114b2
        try clear c115
        try clear c115b0
        try clear c115b1
        try clear hcz104_0
        try clear hcz104_1
        try clear hcz106_0
        try clear hcz106_1
        try clear hcz108_0
        try clear hcz108_1
        try clear hcz110_0
        try clear hcz110_1
        try clear hcz45_0
        try clear hcz45_1
        try clear hcz54_0
        try clear hcz54_1
        try clear hcz61_0
        try clear hcz61_1
        try clear hcz69_0
        try clear hcz69_1
        try clear hcz70_0
        try clear hcz70_1
        try clear hcz73_0
        try clear hcz73_1
        try clear hcz74_0
        try clear hcz74_1
        try clear hcz79_0
        try clear hcz79_1
        try clear hcz80_0
        try clear hcz80_1
        try clear hcz83_0
        try clear hcz83_1
        try clear hcz84_0
        try clear hcz84_1
        try clear hcz89_0
        try clear hcz89_1
        try clear hcz90_0
        try clear hcz90_1
        try clear hcz93_0
        try clear hcz93_1
        try clear hcz94_0
        try clear hcz94_1
        try clear hfz104_0
        try clear hfz104_1
        try clear hfz106_0
        try clear hfz106_1
        try clear hfz108_0
        try clear hfz108_1
        try clear hfz110_0
        try clear hfz110_1
        try clear hfz45_0
        try clear hfz45_1
        try clear hfz54_0
        try clear hfz54_1
        try clear hfz61_0
        try clear hfz61_1
        try clear hfz69_0
        try clear hfz69_1
        try clear hfz70_0
        try clear hfz70_1
        try clear hfz73_0
        try clear hfz73_1
        try clear hfz74_0
        try clear hfz74_1
        try clear hfz79_0
        try clear hfz79_1
        try clear hfz80_0
        try clear hfz80_1
        try clear hfz83_0
        try clear hfz83_1
        try clear hfz84_0
        try clear hfz84_1
        try clear hfz89_0
        try clear hfz89_1
        try clear hfz90_0
        try clear hfz90_1
        try clear hfz93_0
        try clear hfz93_1
        try clear hfz94_0
        try clear hfz94_1
        try clear p2
        try clear p6
        try clear p64
        obtain ⟨kq, x272_99, rfl, HA, HJ99, BK318, BK338, HB⟩ := hcut
        cases kq with
        | zero => exact absurd HA.out (by simp [laws_FnWordsFit.j3])
        | succ kj99 =>
         have H := HA.out
         clear HA
         simp only [laws_FnWordsFit.j3] at H
         by_cases c116 : x272_99 = true
         ·as_aux_lemma =>
           subst c116
           have H1 := H
           rw [if_pos rfl] at H1
           clear H
           have H := H1
           clear H1
           exact absurd ((Option.some.inj H).trans HRT.out) (by decide)
         ·replace c116 := Bool.eq_false_iff.mpr c116
          subst c116
          have H1 := H
          rw [if_neg (show ¬ (false = true) by decide)] at H1
          clear H
          have H := H1
          clear H1
          have HC117 := Aside0.mk H
          clear H
          go_upto_if 273 with (fail)
          go_cut [] (fun wc => ∃ (kq : Nat), Aside0 (laws_FnWordsFit.j5 kq l1 = some r) ∧ Aside0 (kq ≤ kj99) ∧ Aside0 (wc.heap[gb318]? = some (.cells #[.int .i64 t315, .bool t316] 29 (0, 0))) ∧ Aside0 (wc.heap[gb338]? = some (.cells #[.int .i64 t334, .bool t335] 29 (0, 0))) ∧ Aside0 (Below w.heap.size w wc))
          case first => as_aux_lemma =>
           have H := HC117.out
           clear HC117
           by_cases c118 : t340 = true
           ·subst c118
            have H1 := H
            rw [if_pos rfl] at H1
            clear H
            have H := H1
            clear H1
            replace H := Option.bind_eq_some_iff.mp H
            obtain ⟨⟨t347, t348⟩, A1190, H⟩ := H
            (try dsimp only at H)
            have A119 := Aside0.mk A1190
            clear A1190
            have HC120 := Aside0.mk H
            clear H
            have hnb121 := NB338_318.out
            have hnc121 := NB318_338.out
            have hcz122_0 : wc.cell? ⟨gb338, 0, none⟩ = some (.int .i64 t334) := (blk_cell BK338.out 0).trans rfl
            have hcz122_1 : wc.cell? ⟨gb338, 1, none⟩ = some (.bool t335) := (blk_cell BK338.out 1).trans rfl
            have hfz122_0 := blk_frozen BK338.out 0
            have hfz122_1 := blk_frozen BK338.out 1
            go_upto_region 25 with (first | ((with_reducible refine gate_callee (f := 35) rfl ?_); refine goesL_ (some 278) rfl rfl Try.func35 (by kernel_rfl) rfl #[.agg #[.int .i64 t334, .bool t335], .int .i64 t337, .int .i64 t336] rfl (by (try simp only [List.map_toArray, List.map_cons, List.map_nil]); first | done | rfl | (simp only [List.length_drop, List.length_take]; rfl)) ?_; (with_reducible refine (impl_AddIn.calls t334 t335 t337 t336 t347 t348 _ A119.out).mono ?_); rintro e w123 ⟨rfl, hb⟩; refine ⟨_, rfl, ?_⟩; have n0_ := Aside0.mk (blk_below (g := gb318) (o := .cells #[.int .i64 t315, .bool t316] 29 (0, 0)) (by (with_reducible repeat (first | refine blk_drewN ?_ _ | refine blk_drew ?_ | refine blk_alloc ?_ _)); exact BK318.out) hb); have n1_ := Aside0.mk (blk_below (g := gb338) (o := .cells #[.int .i64 t334, .bool t335] 29 (0, 0)) (by (with_reducible repeat (first | refine blk_drewN ?_ _ | refine blk_drew ?_ | refine blk_alloc ?_ _)); exact BK338.out) hb); have n2_ := Aside0.mk (below_step (by repeat (first | (with_reducible first | exact HB.out | apply below_alloc | apply pw_below_drewN | apply below_drew1 | refine below_set ?_ GE318.out | refine below_set ?_ GE338.out) | exact HB.out)) hb); clear BK318; clear BK338; clear HB; have BK318 := n0_; have BK338 := n1_; have HB := n2_; clear n0_ n1_ n2_; (try clear hb); (try clear hb2); (try clear hk); (try clear hi)))
            (try simp only [Act.put, List.setIfInBounds_toArray, List.set_cons_zero, List.set_cons_succ])
            go_cut [287] (fun v287 wc => ∃ (kq : Nat) (x287_119 : Bool), v287 = .bool x287_119 ∧ Aside0 (laws_FnWordsFit.j4 kq l1 t336 t337 t339 x287_119 t334 t335 = some r) ∧ Aside0 (kq ≤ kj99) ∧ Aside0 (wc.heap[gb318]? = some (.cells #[.int .i64 t315, .bool t316] 29 (0, 0))) ∧ Aside0 (wc.heap[gb338]? = some (.cells #[.int .i64 t334, .bool t335] 29 (0, 0))) ∧ Aside0 (Below w.heap.size w wc))
            case first => as_aux_lemma =>
             have H := HC120.out
             clear HC120
             by_cases c124 : t348 = true
             ·as_aux_lemma =>
               subst c124
               have H1 := H
               rw [if_pos rfl] at H1
               clear H
               have H := H1
               clear H1
               have H' := Aside0.mk H
               clear H
               go_wp2
               go_meet
               case rel => exact ⟨_, ((t347 != t339)), (by first | rfl | (simp; done) | (simp [*]; done)), H', ⟨by have := HJ9.out; have := HJ40.out; have := HJ99.out; first | omega | exact Nat.le_refl _⟩, ⟨by (with_reducible repeat (first | refine blk_drewN ?_ _ | refine blk_drew ?_ | refine blk_alloc ?_ _)); exact BK318.out⟩, ⟨by (with_reducible repeat (first | refine blk_drewN ?_ _ | refine blk_drew ?_ | refine blk_alloc ?_ _)); exact BK338.out⟩, ⟨by repeat (first | (with_reducible first | exact HB.out | apply below_alloc | apply pw_below_drewN | apply below_drew1 | refine below_set ?_ GE318.out | refine below_set ?_ GE338.out) | exact HB.out)⟩⟩
             ·as_aux_lemma =>
               replace c124 := Bool.eq_false_iff.mpr c124
               subst c124
               have H1 := H
               rw [if_neg (show ¬ (false = true) by decide)] at H1
               clear H
               have H := H1
               clear H1
               exact absurd H (by have hr_ := HRT.out; cases kj99 <;> simp [laws_FnWordsFit.j4, hr_])
            case rest => as_aux_lemma =>
             clear HC120
             try clear c1
             try clear c2
             try clear p2
             try clear c3
             try clear c4
             try clear c5
             try clear c6
             try clear p6
             try clear c7
             try clear c8
             try clear c9
             try clear c10
             try clear c11
             try clear c12
             try clear c22
             try clear c22b0
             try clear c22b1
             try clear c24
             try clear c24b0
             try clear c24b1
             try clear c25
             try clear c25b0
             try clear c25b1
             try clear c28
             try clear c31
             try clear c32
             try clear c33
             try clear c34
             try clear c35
             try clear c36
             try clear c37
             try clear c38
             try clear c40
             try clear c42
             try clear c47
             try clear c48
             try clear c48b0
             try clear c48b1
             try clear c49
             try clear c49b0
             try clear c50
             try clear c50b0
             try clear c51
             try clear c51b0
             try clear c51b1
             try clear c53
             try clear c53b0
             try clear c53b1
             try clear c55
             try clear c56
             try clear c57
             try clear c57b0
             try clear c57b1
             try clear c59
             try clear c59b0
             try clear c59b1
             try clear c60
             try clear c60b0
             try clear c60b1
             try clear c62
             try clear c62b0
             try clear c63
             try clear c63b0
             try clear c64
             try clear c64b0
             try clear c64b1
             try clear p64
             try clear c65
             try clear c65b0
             try clear c66
             try clear c66b0
             try clear c66b1
             try clear c67
             try clear c67b0
             try clear c68
             try clear c68b0
             try clear c68b1
             try clear c71
             try clear c71b0
             try clear c72
             try clear c72b0
             try clear c72b1
             try clear c75
             try clear c75b0
             try clear c76
             try clear c76b0
             try clear c76b1
             try clear c77
             try clear c77b0
             try clear c78
             try clear c78b0
             try clear c78b1
             try clear c81
             try clear c81b0
             try clear c82
             try clear c82b0
             try clear c82b1
             try clear c85
             try clear c85b0
             try clear c86
             try clear c86b0
             try clear c86b1
             try clear c87
             try clear c87b0
             try clear c88
             try clear c88b0
             try clear c88b1
             try clear c91
             try clear c91b0
             try clear c92
             try clear c92b0
             try clear c92b1
             try clear c103
             try clear c112
             try clear c112b0
             try clear c112b1
             try clear c112b2
             try clear c113
             try clear c113b0
             try clear c113b1
             try clear c114
             try clear c114b0
             try clear c114b1
             try clear c114b2
             try clear c115
             try clear c115b0
             try clear c115b1
             try clear c116
             try clear c118
             try clear c121
             try clear c124
             try clear hcz104_0
             try clear hcz104_1
             try clear hcz106_0
             try clear hcz106_1
             try clear hcz108_0
             try clear hcz108_1
             try clear hcz110_0
             try clear hcz110_1
             try clear hcz122_0
             try clear hcz122_1
             try clear hcz45_0
             try clear hcz45_1
             try clear hcz54_0
             try clear hcz54_1
             try clear hcz61_0
             try clear hcz61_1
             try clear hcz69_0
             try clear hcz69_1
             try clear hcz70_0
             try clear hcz70_1
             try clear hcz73_0
             try clear hcz73_1
             try clear hcz74_0
             try clear hcz74_1
             try clear hcz79_0
             try clear hcz79_1
             try clear hcz80_0
             try clear hcz80_1
             try clear hcz83_0
             try clear hcz83_1
             try clear hcz84_0
             try clear hcz84_1
             try clear hcz89_0
             try clear hcz89_1
             try clear hcz90_0
             try clear hcz90_1
             try clear hcz93_0
             try clear hcz93_1
             try clear hcz94_0
             try clear hcz94_1
             try clear hfz104_0
             try clear hfz104_1
             try clear hfz106_0
             try clear hfz106_1
             try clear hfz108_0
             try clear hfz108_1
             try clear hfz110_0
             try clear hfz110_1
             try clear hfz122_0
             try clear hfz122_1
             try clear hfz45_0
             try clear hfz45_1
             try clear hfz54_0
             try clear hfz54_1
             try clear hfz61_0
             try clear hfz61_1
             try clear hfz69_0
             try clear hfz69_1
             try clear hfz70_0
             try clear hfz70_1
             try clear hfz73_0
             try clear hfz73_1
             try clear hfz74_0
             try clear hfz74_1
             try clear hfz79_0
             try clear hfz79_1
             try clear hfz80_0
             try clear hfz80_1
             try clear hfz83_0
             try clear hfz83_1
             try clear hfz84_0
             try clear hfz84_1
             try clear hfz89_0
             try clear hfz89_1
             try clear hfz90_0
             try clear hfz90_1
             try clear hfz93_0
             try clear hfz93_1
             try clear hfz94_0
             try clear hfz94_1
             try clear p2
             try clear p6
             try clear p64
             obtain ⟨kq, x287_119, rfl, HA, HJ119, BK318, BK338, HB⟩ := hcut
             cases kq with
             | zero => exact absurd HA.out (by simp [laws_FnWordsFit.j4])
             | succ kj119 =>
              have H := HA.out
              clear HA
              simp only [laws_FnWordsFit.j4] at H
              by_cases c125 : x287_119 = true
              ·as_aux_lemma =>
                subst c125
                have H1 := H
                rw [if_pos rfl] at H1
                clear H
                have H := H1
                clear H1
                exact absurd ((Option.some.inj H).trans HRT.out) (by decide)
              ·replace c125 := Bool.eq_false_iff.mpr c125
               subst c125
               have H1 := H
               rw [if_neg (show ¬ (false = true) by decide)] at H1
               clear H
               have H := H1
               clear H1
               by_cases c126 : t335 = true
               ·as_aux_lemma =>
                 subst c126
                 have H1 := H
                 rw [if_pos rfl] at H1
                 clear H
                 have H := H1
                 clear H1
                 replace H := Option.bind_eq_some_iff.mp H
                 obtain ⟨⟨t349, t350⟩, A1270, H⟩ := H
                 (try dsimp only at H)
                 have A127 := Aside0.mk A1270
                 clear A1270
                 by_cases c128 : t350 = true
                 ·subst c128
                  have H1 := H
                  rw [if_pos rfl] at H1
                  clear H
                  have H := H1
                  clear H1
                  by_cases c129 : t349 = t336
                  ·rw [if_pos c129] at H
                   have c129b0 : (t349 == t336) = true := beq_iff_eq.mpr c129
                   have c129b1 : (t349 != t336) = false := bne_eq_false_iff_eq.mpr c129
                   clear c129
                   have H' := Aside0.mk H
                   clear H
                   have hnb130 := NB338_318.out
                   have hnc130 := NB318_338.out
                   have hcz131_0 : wc.cell? ⟨gb338, 0, none⟩ = some (.int .i64 t334) := (blk_cell BK338.out 0).trans rfl
                   have hcz131_1 : wc.cell? ⟨gb338, 1, none⟩ = some (.bool true) := (blk_cell BK338.out 1).trans rfl
                   have hfz131_0 := blk_frozen BK338.out 0
                   have hfz131_1 := blk_frozen BK338.out 1
                   go_wp2_with (first | ((with_reducible refine gate_callee (f := 37) rfl ?_); refine goesL_ (some 294) rfl rfl Try.func37 (by kernel_rfl) rfl #[.agg #[.int .i64 t334, .bool true], .int .i64 t339, .int .i64 t337] rfl (by (try simp only [List.map_toArray, List.map_cons, List.map_nil]); first | done | rfl | (simp only [List.length_drop, List.length_take]; rfl)) ?_; (with_reducible refine (impl_LessIn.calls t334 true t339 t337 t349 true _ A127.out).mono ?_); rintro e w132 ⟨rfl, hb⟩; refine ⟨_, rfl, ?_⟩; have n0_ := Aside0.mk (blk_below (g := gb318) (o := .cells #[.int .i64 t315, .bool t316] 29 (0, 0)) (by (with_reducible repeat (first | refine blk_drewN ?_ _ | refine blk_drew ?_ | refine blk_alloc ?_ _)); exact BK318.out) hb); have n1_ := Aside0.mk (blk_below (g := gb338) (o := .cells #[.int .i64 t334, .bool true] 29 (0, 0)) (by (with_reducible repeat (first | refine blk_drewN ?_ _ | refine blk_drew ?_ | refine blk_alloc ?_ _)); exact BK338.out) hb); have n2_ := Aside0.mk (below_step (by repeat (first | (with_reducible first | exact HB.out | apply below_alloc | apply pw_below_drewN | apply below_drew1 | refine below_set ?_ GE318.out | refine below_set ?_ GE338.out) | exact HB.out)) hb); clear BK318; clear BK338; clear HB; have BK318 := n0_; have BK338 := n1_; have HB := n2_; clear n0_ n1_ n2_; (try clear hb); (try clear hb2); (try clear hk); (try clear hi)))
                   go_meet
                   case rel => exact ⟨_, H', ⟨by have := HJ9.out; have := HJ40.out; have := HJ99.out; have := HJ119.out; first | omega | exact Nat.le_refl _⟩, ⟨by (with_reducible repeat (first | refine blk_drewN ?_ _ | refine blk_drew ?_ | refine blk_alloc ?_ _)); exact BK318.out⟩, ⟨by (with_reducible repeat (first | refine blk_drewN ?_ _ | refine blk_drew ?_ | refine blk_alloc ?_ _)); exact BK338.out⟩, ⟨by repeat (first | (with_reducible first | exact HB.out | apply below_alloc | apply pw_below_drewN | apply below_drew1 | refine below_set ?_ GE318.out | refine below_set ?_ GE338.out) | exact HB.out)⟩⟩
                  ·rw [if_neg c129] at H
                   have c129b0 : (t349 == t336) = false := beq_eq_false_iff_ne.mpr c129
                   have c129b1 : (t349 != t336) = true := bne_iff_ne.mpr c129
                   exact absurd ((Option.some.inj H).trans HRT.out) (by decide)
                 ·replace c128 := Bool.eq_false_iff.mpr c128
                  subst c128
                  have H1 := H
                  rw [if_neg (show ¬ (false = true) by decide)] at H1
                  clear H
                  have H := H1
                  clear H1
                  exact absurd ((Option.some.inj H).trans HRT.out) (by decide)
               ·as_aux_lemma =>
                 replace c126 := Bool.eq_false_iff.mpr c126
                 subst c126
                 have H1 := H
                 rw [if_neg (show ¬ (false = true) by decide)] at H1
                 clear H
                 have H := H1
                 clear H1
                 replace H := Option.bind_eq_some_iff.mp H
                 obtain ⟨⟨t351, t352⟩, A1330, H⟩ := H
                 (try dsimp only at H)
                 have A133 := Aside0.mk A1330
                 clear A1330
                 by_cases c134 : t352 = true
                 ·subst c134
                  have H1 := H
                  rw [if_pos rfl] at H1
                  clear H
                  have H := H1
                  clear H1
                  by_cases c135 : t351 = t339
                  ·rw [if_pos c135] at H
                   have c135b0 : (t351 == t339) = true := beq_iff_eq.mpr c135
                   have c135b1 : (t351 != t339) = false := bne_eq_false_iff_eq.mpr c135
                   clear c135
                   have H' := Aside0.mk H
                   clear H
                   have hnb136 := NB338_318.out
                   have hnc136 := NB318_338.out
                   have hcz137_0 : wc.cell? ⟨gb338, 0, none⟩ = some (.int .i64 t334) := (blk_cell BK338.out 0).trans rfl
                   have hcz137_1 : wc.cell? ⟨gb338, 1, none⟩ = some (.bool false) := (blk_cell BK338.out 1).trans rfl
                   have hfz137_0 := blk_frozen BK338.out 0
                   have hfz137_1 := blk_frozen BK338.out 1
                   go_wp2_with (first | ((with_reducible refine gate_callee (f := 28) rfl ?_); refine goesL_ (some 309) rfl rfl Try.func28 (by kernel_rfl) rfl #[.agg #[.int .i64 t334, .bool false], .int .i64 (wrap64 (t336 + t337))] rfl (by (try simp only [List.map_toArray, List.map_cons, List.map_nil]); first | done | rfl | (simp only [List.length_drop, List.length_take]; rfl)) ?_; (with_reducible refine (impl_FitNumber.calls t334 false (wrap64 (t336 + t337)) t351 true _ A133.out).mono ?_); rintro e w138 ⟨rfl, hb⟩; refine ⟨_, rfl, ?_⟩; have n0_ := Aside0.mk (blk_below (g := gb318) (o := .cells #[.int .i64 t315, .bool t316] 29 (0, 0)) (by (with_reducible repeat (first | refine blk_drewN ?_ _ | refine blk_drew ?_ | refine blk_alloc ?_ _)); exact BK318.out) hb); have n1_ := Aside0.mk (blk_below (g := gb338) (o := .cells #[.int .i64 t334, .bool false] 29 (0, 0)) (by (with_reducible repeat (first | refine blk_drewN ?_ _ | refine blk_drew ?_ | refine blk_alloc ?_ _)); exact BK338.out) hb); have n2_ := Aside0.mk (below_step (by repeat (first | (with_reducible first | exact HB.out | apply below_alloc | apply pw_below_drewN | apply below_drew1 | refine below_set ?_ GE318.out | refine below_set ?_ GE338.out) | exact HB.out)) hb); clear BK318; clear BK338; clear HB; have BK318 := n0_; have BK338 := n1_; have HB := n2_; clear n0_ n1_ n2_; (try clear hb); (try clear hb2); (try clear hk); (try clear hi)))
                   go_meet
                   case rel => exact ⟨_, H', ⟨by have := HJ9.out; have := HJ40.out; have := HJ99.out; have := HJ119.out; first | omega | exact Nat.le_refl _⟩, ⟨by (with_reducible repeat (first | refine blk_drewN ?_ _ | refine blk_drew ?_ | refine blk_alloc ?_ _)); exact BK318.out⟩, ⟨by (with_reducible repeat (first | refine blk_drewN ?_ _ | refine blk_drew ?_ | refine blk_alloc ?_ _)); exact BK338.out⟩, ⟨by repeat (first | (with_reducible first | exact HB.out | apply below_alloc | apply pw_below_drewN | apply below_drew1 | refine below_set ?_ GE318.out | refine below_set ?_ GE338.out) | exact HB.out)⟩⟩
                  ·rw [if_neg c135] at H
                   have c135b0 : (t351 == t339) = false := beq_eq_false_iff_ne.mpr c135
                   have c135b1 : (t351 != t339) = true := bne_iff_ne.mpr c135
                   exact absurd ((Option.some.inj H).trans HRT.out) (by decide)
                 ·replace c134 := Bool.eq_false_iff.mpr c134
                  subst c134
                  have H1 := H
                  rw [if_neg (show ¬ (false = true) by decide)] at H1
                  clear H
                  have H := H1
                  clear H1
                  exact absurd ((Option.some.inj H).trans HRT.out) (by decide)
           ·as_aux_lemma =>
             replace c118 := Bool.eq_false_iff.mpr c118
             subst c118
             have H1 := H
             rw [if_neg (show ¬ (false = true) by decide)] at H1
             clear H
             have H := H1
             clear H1
             have H' := Aside0.mk H
             clear H
             go_wp2
             go_meet
             case rel => exact ⟨_, H', ⟨by have := HJ9.out; have := HJ40.out; have := HJ99.out; first | omega | exact Nat.le_refl _⟩, ⟨by (with_reducible repeat (first | refine blk_drewN ?_ _ | refine blk_drew ?_ | refine blk_alloc ?_ _)); exact BK318.out⟩, ⟨by (with_reducible repeat (first | refine blk_drewN ?_ _ | refine blk_drew ?_ | refine blk_alloc ?_ _)); exact BK338.out⟩, ⟨by repeat (first | (with_reducible first | exact HB.out | apply below_alloc | apply pw_below_drewN | apply below_drew1 | refine below_set ?_ GE318.out | refine below_set ?_ GE338.out) | exact HB.out)⟩⟩
          case rest => as_aux_lemma =>
           clear HC117
           try clear c1
           try clear c2
           try clear p2
           try clear c3
           try clear c4
           try clear c5
           try clear c6
           try clear p6
           try clear c7
           try clear c8
           try clear c9
           try clear c10
           try clear c11
           try clear c12
           try clear c13
           try clear c22
           try clear c22b0
           try clear c22b1
           try clear c24
           try clear c24b0
           try clear c24b1
           try clear c25
           try clear c25b0
           try clear c25b1
           try clear c28
           try clear c31
           try clear c32
           try clear c33
           try clear c34
           try clear c35
           try clear c36
           try clear c37
           try clear c38
           try clear c40
           try clear c42
           try clear c47
           try clear c48
           try clear c48b0
           try clear c48b1
           try clear c49
           try clear c49b0
           try clear c50
           try clear c50b0
           try clear c51
           try clear c51b0
           try clear c51b1
           try clear c53
           try clear c53b0
           try clear c53b1
           try clear c55
           try clear c56
           try clear c57
           try clear c57b0
           try clear c57b1
           try clear c59
           try clear c59b0
           try clear c59b1
           try clear c60
           try clear c60b0
           try clear c60b1
           try clear c62
           try clear c62b0
           try clear c63
           try clear c63b0
           try clear c64
           try clear c64b0
           try clear c64b1
           try clear p64
           try clear c65
           try clear c65b0
           try clear c66
           try clear c66b0
           try clear c66b1
           try clear c67
           try clear c67b0
           try clear c68
           try clear c68b0
           try clear c68b1
           try clear c71
           try clear c71b0
           try clear c72
           try clear c72b0
           try clear c72b1
           try clear c75
           try clear c75b0
           try clear c76
           try clear c76b0
           try clear c76b1
           try clear c77
           try clear c77b0
           try clear c78
           try clear c78b0
           try clear c78b1
           try clear c81
           try clear c81b0
           try clear c82
           try clear c82b0
           try clear c82b1
           try clear c85
           try clear c85b0
           try clear c86
           try clear c86b0
           try clear c86b1
           try clear c87
           try clear c87b0
           try clear c88
           try clear c88b0
           try clear c88b1
           try clear c91
           try clear c91b0
           try clear c92
           try clear c92b0
           try clear c92b1
           try clear c103
           try clear c112
           try clear c112b0
           try clear c112b1
           try clear c112b2
           try clear c113
           try clear c113b0
           try clear c113b1
           try clear c114
           try clear c114b0
           try clear c114b1
           try clear c114b2
           try clear c115
           try clear c115b0
           try clear c115b1
           try clear c116
           try clear c118
           try clear c121
           try clear c124
           try clear c125
           try clear c126
           try clear c128
           try clear c129
           try clear c129b0
           try clear c129b1
           try clear c130
           try clear c134
           try clear c135
           try clear c135b0
           try clear c135b1
           try clear c136
           try clear hcz104_0
           try clear hcz104_1
           try clear hcz106_0
           try clear hcz106_1
           try clear hcz108_0
           try clear hcz108_1
           try clear hcz110_0
           try clear hcz110_1
           try clear hcz122_0
           try clear hcz122_1
           try clear hcz131_0
           try clear hcz131_1
           try clear hcz137_0
           try clear hcz137_1
           try clear hcz45_0
           try clear hcz45_1
           try clear hcz54_0
           try clear hcz54_1
           try clear hcz61_0
           try clear hcz61_1
           try clear hcz69_0
           try clear hcz69_1
           try clear hcz70_0
           try clear hcz70_1
           try clear hcz73_0
           try clear hcz73_1
           try clear hcz74_0
           try clear hcz74_1
           try clear hcz79_0
           try clear hcz79_1
           try clear hcz80_0
           try clear hcz80_1
           try clear hcz83_0
           try clear hcz83_1
           try clear hcz84_0
           try clear hcz84_1
           try clear hcz89_0
           try clear hcz89_1
           try clear hcz90_0
           try clear hcz90_1
           try clear hcz93_0
           try clear hcz93_1
           try clear hcz94_0
           try clear hcz94_1
           try clear hfz104_0
           try clear hfz104_1
           try clear hfz106_0
           try clear hfz106_1
           try clear hfz108_0
           try clear hfz108_1
           try clear hfz110_0
           try clear hfz110_1
           try clear hfz122_0
           try clear hfz122_1
           try clear hfz131_0
           try clear hfz131_1
           try clear hfz137_0
           try clear hfz137_1
           try clear hfz45_0
           try clear hfz45_1
           try clear hfz54_0
           try clear hfz54_1
           try clear hfz61_0
           try clear hfz61_1
           try clear hfz69_0
           try clear hfz69_1
           try clear hfz70_0
           try clear hfz70_1
           try clear hfz73_0
           try clear hfz73_1
           try clear hfz74_0
           try clear hfz74_1
           try clear hfz79_0
           try clear hfz79_1
           try clear hfz80_0
           try clear hfz80_1
           try clear hfz83_0
           try clear hfz83_1
           try clear hfz84_0
           try clear hfz84_1
           try clear hfz89_0
           try clear hfz89_1
           try clear hfz90_0
           try clear hfz90_1
           try clear hfz93_0
           try clear hfz93_1
           try clear hfz94_0
           try clear hfz94_1
           try clear p2
           try clear p6
           try clear p64
           obtain ⟨kq, HA, HJ116, BK318, BK338, HB⟩ := hcut
           cases kq with
           | zero => exact absurd HA.out (by simp [laws_FnWordsFit.j5])
           | succ kj116 =>
            have H := HA.out
            clear HA
            simp only [laws_FnWordsFit.j5] at H
            replace H := Option.bind_eq_some_iff.mp H
            obtain ⟨⟨t353, t354, t355, t356, t357, t358⟩, A1390, H⟩ := H
            (try dsimp only at H)
            have A139 := Aside0.mk A1390
            clear A1390
            replace H := Option.bind_eq_some_iff.mp H
            obtain ⟨⟨t360, t361⟩, A1400, H⟩ := H
            (try dsimp only at H)
            have A140 := Aside0.mk A1400
            clear A1400
            replace H := Option.bind_eq_some_iff.mp H
            obtain ⟨⟨t362, t363⟩, A1410, H⟩ := H
            (try dsimp only at H)
            have A141 := Aside0.mk A1410
            clear A1410
            have HC142 := Aside0.mk H
            clear H
            go_upto_region 37 with (first | ((with_reducible refine gate_callee (f := 39) rfl ?_); refine goesL_ (some 321) rfl rfl Try.func39 (by kernel_rfl) rfl #[.slice A1 l1.length c1] rfl (by (try simp only [List.map_toArray, List.map_cons, List.map_nil]); first | done | rfl | (simp only [List.length_drop, List.length_take]; rfl)) ?_; (with_reducible refine (spec_DrawTimesIn.calls kj116 _ _ l1 t353 t354 t355 t356 t357 t358 _ ?side1 ?side2 A139.out).mono ?_); (case side1 => repeat (first | exact (Kd.C_below HR1.out HB.out) | (with_reducible refine Kd.C_alloc ?_ _) | (with_reducible refine Kd.C_drewN ?_ _) | (with_reducible refine Kd.C_drew ?_))); (case side2 => exact HC1.out); rintro e w143 ⟨rfl, hb⟩; refine ⟨_, rfl, ?_⟩; have n0_ := Aside0.mk (blk_below (g := gb318) (o := .cells #[.int .i64 t315, .bool t316] 29 (0, 0)) (by (with_reducible repeat (first | refine blk_drewN ?_ _ | refine blk_drew ?_ | refine blk_alloc ?_ _)); exact BK318.out) hb); have n1_ := Aside0.mk (blk_below (g := gb338) (o := .cells #[.int .i64 t334, .bool t335] 29 (0, 0)) (by (with_reducible repeat (first | refine blk_drewN ?_ _ | refine blk_drew ?_ | refine blk_alloc ?_ _)); exact BK338.out) hb); have n2_ := Aside0.mk (below_step (by repeat (first | (with_reducible first | exact HB.out | apply below_alloc | apply pw_below_drewN | apply below_drew1 | refine below_set ?_ GE318.out | refine below_set ?_ GE338.out) | exact HB.out)) hb); clear BK318; clear BK338; clear HB; have BK318 := n0_; have BK338 := n1_; have HB := n2_; clear n0_ n1_ n2_; (try clear hb); (try clear hb2); (try clear hk); (try clear hi)) | ((with_reducible refine gate_dst (N := 36) rfl ?_); refine box_event ?hg (N := 36) ?hd (cs := #[.int .i64 0, .bool false]) (t := 29) ?hr ?_; (case hd => rfl); (case hg => rfl); (case hr => first | (go_simp; done) | (go_simp; rfl)); intro gb359 hg w144 hbox hb; have n0_ := Aside0.mk (blk_below (g := gb318) (o := .cells #[.int .i64 t315, .bool t316] 29 (0, 0)) (by (with_reducible repeat (first | refine blk_drewN ?_ _ | refine blk_drew ?_ | refine blk_alloc ?_ _)); exact BK318.out) hb); have n1_ := Aside0.mk (blk_below (g := gb338) (o := .cells #[.int .i64 t334, .bool t335] 29 (0, 0)) (by (with_reducible repeat (first | refine blk_drewN ?_ _ | refine blk_drew ?_ | refine blk_alloc ?_ _)); exact BK338.out) hb); have n2_ := Aside0.mk (below_step (by repeat (first | (with_reducible first | exact HB.out | apply below_alloc | apply pw_below_drewN | apply below_drew1 | refine below_set ?_ GE318.out | refine below_set ?_ GE338.out) | exact HB.out)) hb); have n3_ := Aside0.mk (hbox); have n4_ := Aside0.mk ((by rw [hg]; exact (below_size (by repeat (first | (with_reducible first | exact HB.out | apply below_alloc | apply pw_below_drewN | apply below_drew1 | refine below_set ?_ GE318.out | refine below_set ?_ GE338.out) | exact HB.out))) : w.heap.size ≤ gb359)); have n5_ := Aside0.mk ((by rw [hg]; exact (below_size (by repeat (first | (with_reducible first | exact HB.out | apply below_alloc | apply pw_below_drewN | apply below_drew1 | refine below_set ?_ GE318.out | refine below_set ?_ GE338.out) | exact HB.out))) : w.heap.size ≤ gb359)); have n6_ := Aside0.mk ((by rw [hg]; exact Nat.ne_of_lt (blk_lt (g := gb318) (o := .cells #[.int .i64 t315, .bool t316] 29 (0, 0)) (by (with_reducible repeat (first | refine blk_drewN ?_ _ | refine blk_drew ?_ | refine blk_alloc ?_ _)); exact BK318.out)) : gb318 ≠ gb359)); have n7_ := Aside0.mk ((by rw [hg]; exact Nat.ne_of_gt (blk_lt (g := gb318) (o := .cells #[.int .i64 t315, .bool t316] 29 (0, 0)) (by (with_reducible repeat (first | refine blk_drewN ?_ _ | refine blk_drew ?_ | refine blk_alloc ?_ _)); exact BK318.out)) : gb359 ≠ gb318)); have n8_ := Aside0.mk ((by rw [hg]; exact Nat.ne_of_lt (blk_lt (g := gb338) (o := .cells #[.int .i64 t334, .bool t335] 29 (0, 0)) (by (with_reducible repeat (first | refine blk_drewN ?_ _ | refine blk_drew ?_ | refine blk_alloc ?_ _)); exact BK338.out)) : gb338 ≠ gb359)); have n9_ := Aside0.mk ((by rw [hg]; exact Nat.ne_of_gt (blk_lt (g := gb338) (o := .cells #[.int .i64 t334, .bool t335] 29 (0, 0)) (by (with_reducible repeat (first | refine blk_drewN ?_ _ | refine blk_drew ?_ | refine blk_alloc ?_ _)); exact BK338.out)) : gb359 ≠ gb338)); clear BK318; clear BK338; clear HB; have BK318 := n0_; have BK338 := n1_; have HB := n2_; have BK359 := n3_; have GW359 := n4_; have GE359 := n5_; have NB318_359 := n6_; have NB359_318 := n7_; have NB338_359 := n8_; have NB359_338 := n9_; clear n0_ n1_ n2_ n3_ n4_ n5_ n6_ n7_ n8_ n9_; clear hb hbox hg; have hnb145 := NB359_318.out; have hnc145 := NB318_359.out; have hnb146 := NB359_338.out; have hnc146 := NB338_359.out; have hcz147_0 : w144.cell? ⟨gb359, 0, none⟩ = some (.int .i64 0) := (blk_cell BK359.out 0).trans rfl; have hcz147_1 : w144.cell? ⟨gb359, 1, none⟩ = some (.bool false) := (blk_cell BK359.out 1).trans rfl; have hfz147_0 := blk_frozen BK359.out 0; have hfz147_1 := blk_frozen BK359.out 1) | ((with_reducible refine gate_callee (f := 40) rfl ?_); refine goesL_ (some 333) rfl rfl Try.func40 (by kernel_rfl) rfl #[.agg #[.int .i64 t353, .bool t354], .int .i64 t355, .int .i64 t356, .int .i64 t357, .int .i64 t358] rfl (by (try simp only [List.map_toArray, List.map_cons, List.map_nil]); first | done | rfl | (simp only [List.length_drop, List.length_take]; rfl)) ?_; (with_reducible refine (impl_TimesIn.calls kj116 t353 t354 t355 t356 t357 t358 t360 t361 _ A140.out).mono ?_); rintro e w148 ⟨rfl, hb⟩; refine ⟨_, rfl, ?_⟩; have n0_ := Aside0.mk (blk_below (g := gb318) (o := .cells #[.int .i64 t315, .bool t316] 29 (0, 0)) (by (with_reducible repeat (first | refine blk_drewN ?_ _ | refine blk_drew ?_ | refine blk_alloc ?_ _)); refine blk_far ?_ NB318_359.out _; (with_reducible repeat (first | refine blk_drewN ?_ _ | refine blk_drew ?_ | refine blk_alloc ?_ _)); refine blk_far ?_ NB318_359.out _; (with_reducible repeat (first | refine blk_drewN ?_ _ | refine blk_drew ?_ | refine blk_alloc ?_ _)); exact BK318.out) hb); have n1_ := Aside0.mk (blk_below (g := gb338) (o := .cells #[.int .i64 t334, .bool t335] 29 (0, 0)) (by (with_reducible repeat (first | refine blk_drewN ?_ _ | refine blk_drew ?_ | refine blk_alloc ?_ _)); refine blk_far ?_ NB338_359.out _; (with_reducible repeat (first | refine blk_drewN ?_ _ | refine blk_drew ?_ | refine blk_alloc ?_ _)); refine blk_far ?_ NB338_359.out _; (with_reducible repeat (first | refine blk_drewN ?_ _ | refine blk_drew ?_ | refine blk_alloc ?_ _)); exact BK338.out) hb); have n2_ := Aside0.mk (blk_below (g := gb359) (o := .cells #[.int .i64 t353, .bool t354] 29 (0, 0)) (by (with_reducible repeat (first | refine blk_drewN ?_ _ | refine blk_drew ?_ | refine blk_alloc ?_ _)); refine blk_put (cs := #[.int .i64 t353, .bool false]) ?_ 1 _ rfl; (with_reducible repeat (first | refine blk_drewN ?_ _ | refine blk_drew ?_ | refine blk_alloc ?_ _)); refine blk_put (cs := #[.int .i64 0, .bool false]) ?_ 0 _ rfl; (with_reducible repeat (first | refine blk_drewN ?_ _ | refine blk_drew ?_ | refine blk_alloc ?_ _)); exact BK359.out) hb); have n3_ := Aside0.mk (below_step (by repeat (first | (with_reducible first | exact HB.out | apply below_alloc | apply pw_below_drewN | apply below_drew1 | refine below_set ?_ GE318.out | refine below_set ?_ GE338.out | refine below_set ?_ GE359.out) | exact HB.out)) hb); clear BK318; clear BK338; clear BK359; clear HB; have BK318 := n0_; have BK338 := n1_; have BK359 := n2_; have HB := n3_; clear n0_ n1_ n2_ n3_; (try clear hb); (try clear hb2); (try clear hk); (try clear hi); have hcz149_0 : w148.cell? ⟨gb359, 0, none⟩ = some (.int .i64 t353) := (blk_cell BK359.out 0).trans rfl; have hcz149_1 : w148.cell? ⟨gb359, 1, none⟩ = some (.bool t354) := (blk_cell BK359.out 1).trans rfl; have hfz149_0 := blk_frozen BK359.out 0; have hfz149_1 := blk_frozen BK359.out 1) | ((with_reducible refine gate_callee (f := 41) rfl ?_); refine goesL_ (some 342) rfl rfl Try.func41 (by kernel_rfl) rfl #[.agg #[.int .i64 t353, .bool t354], .int .i64 t355, .int .i64 t356, .int .i64 t357, .int .i64 t358] rfl (by (try simp only [List.map_toArray, List.map_cons, List.map_nil]); first | done | rfl | (simp only [List.length_drop, List.length_take]; rfl)) ?_; (with_reducible refine (spec_TimesIn.calls kj116 t353 t354 t355 t356 t357 t358 t362 t363 _ A141.out).mono ?_); rintro e w150 ⟨rfl, hb⟩; refine ⟨_, rfl, ?_⟩; have n0_ := Aside0.mk (blk_below (g := gb318) (o := .cells #[.int .i64 t315, .bool t316] 29 (0, 0)) (by (with_reducible repeat (first | refine blk_drewN ?_ _ | refine blk_drew ?_ | refine blk_alloc ?_ _)); exact BK318.out) hb); have n1_ := Aside0.mk (blk_below (g := gb338) (o := .cells #[.int .i64 t334, .bool t335] 29 (0, 0)) (by (with_reducible repeat (first | refine blk_drewN ?_ _ | refine blk_drew ?_ | refine blk_alloc ?_ _)); exact BK338.out) hb); have n2_ := Aside0.mk (blk_below (g := gb359) (o := .cells #[.int .i64 t353, .bool t354] 29 (0, 0)) (by (with_reducible repeat (first | refine blk_drewN ?_ _ | refine blk_drew ?_ | refine blk_alloc ?_ _)); exact BK359.out) hb); have n3_ := Aside0.mk (below_step (by repeat (first | (with_reducible first | exact HB.out | apply below_alloc | apply pw_below_drewN | apply below_drew1 | refine below_set ?_ GE318.out | refine below_set ?_ GE338.out | refine below_set ?_ GE359.out) | exact HB.out)) hb); clear BK318; clear BK338; clear BK359; clear HB; have BK318 := n0_; have BK338 := n1_; have BK359 := n2_; have HB := n3_; clear n0_ n1_ n2_ n3_; (try clear hb); (try clear hb2); (try clear hk); (try clear hi)))
            (try simp only [Act.put, List.setIfInBounds_toArray, List.set_cons_zero, List.set_cons_succ])
            go_cut [352] (fun v352 wc => ∃ (kq : Nat) (x352_141 : Bool), v352 = .bool x352_141 ∧ Aside0 (laws_FnWordsFit.j6 kq t355 t356 t357 t358 t360 t361 x352_141 t353 t354 = some r) ∧ Aside0 (kq ≤ kj116) ∧ Aside0 (wc.heap[gb318]? = some (.cells #[.int .i64 t315, .bool t316] 29 (0, 0))) ∧ Aside0 (wc.heap[gb338]? = some (.cells #[.int .i64 t334, .bool t335] 29 (0, 0))) ∧ Aside0 (wc.heap[gb359]? = some (.cells #[.int .i64 t353, .bool t354] 29 (0, 0))) ∧ Aside0 (Below w.heap.size w wc))
            case first => as_aux_lemma =>
             have H := HC142.out
             clear HC142
             by_cases c151 : (t361 != t363) = true
             ·as_aux_lemma =>
               rw [if_pos c151] at H
               have c151b0 : (t361 != t363) = true := c151
               (try (have c151b1 : decide (t361 = t363) = false := by simpa using c151))
               (try (have c151b2 : (t361 == t363) = false := by simpa using c151))
               (try (have c151b3 : ¬ (t361 = t363) := by simpa using c151))
               clear c151
               (first | rw [c151b0] | (simp only [i64_w, i32_w]; rw [c151b0]) | skip)
               exact absurd H (by have hr_ := HRT.out; cases kj116 <;> simp [laws_FnWordsFit.j6, hr_])
             ·as_aux_lemma =>
               rw [if_neg c151] at H
               have c151b0 : (t361 != t363) = false := by simpa using c151
               (try (have c151b1 : decide (t361 = t363) = true := by simpa using c151))
               (try (have c151b2 : (t361 == t363) = true := by simpa using c151))
               clear c151
               (first | rw [c151b0] | (simp only [i64_w, i32_w]; rw [c151b0]) | skip)
               have H' := Aside0.mk H
               clear H
               go_wp2
               go_meet
               case rel => exact ⟨_, ((t360 != t362)), (by first | rfl | (simp; done) | (simp [*]; done)), H', ⟨by have := HJ9.out; have := HJ40.out; have := HJ99.out; have := HJ116.out; first | omega | exact Nat.le_refl _⟩, ⟨by (with_reducible repeat (first | refine blk_drewN ?_ _ | refine blk_drew ?_ | refine blk_alloc ?_ _)); exact BK318.out⟩, ⟨by (with_reducible repeat (first | refine blk_drewN ?_ _ | refine blk_drew ?_ | refine blk_alloc ?_ _)); exact BK338.out⟩, ⟨by (with_reducible repeat (first | refine blk_drewN ?_ _ | refine blk_drew ?_ | refine blk_alloc ?_ _)); exact BK359.out⟩, ⟨by repeat (first | (with_reducible first | exact HB.out | apply below_alloc | apply pw_below_drewN | apply below_drew1 | refine below_set ?_ GE318.out | refine below_set ?_ GE338.out | refine below_set ?_ GE359.out) | exact HB.out)⟩⟩
            case rest => as_aux_lemma =>
             clear HC142
             try clear c1
             try clear c2
             try clear p2
             try clear c3
             try clear c4
             try clear c5
             try clear c6
             try clear p6
             try clear c7
             try clear c8
             try clear c9
             try clear c10
             try clear c11
             try clear c12
             try clear c13
             try clear c14
             try clear c15
             try clear c22
             try clear c22b0
             try clear c22b1
             try clear c24
             try clear c24b0
             try clear c24b1
             try clear c25
             try clear c25b0
             try clear c25b1
             try clear c28
             try clear c31
             try clear c32
             try clear c33
             try clear c34
             try clear c35
             try clear c36
             try clear c37
             try clear c38
             try clear c39
             try clear c40
             try clear c41
             try clear c42
             try clear c47
             try clear c48
             try clear c48b0
             try clear c48b1
             try clear c49
             try clear c49b0
             try clear c50
             try clear c50b0
             try clear c51
             try clear c51b0
             try clear c51b1
             try clear c53
             try clear c53b0
             try clear c53b1
             try clear c55
             try clear c56
             try clear c57
             try clear c57b0
             try clear c57b1
             try clear c59
             try clear c59b0
             try clear c59b1
             try clear c60
             try clear c60b0
             try clear c60b1
             try clear c62
             try clear c62b0
             try clear c63
             try clear c63b0
             try clear c64
             try clear c64b0
             try clear c64b1
             try clear p64
             try clear c65
             try clear c65b0
             try clear c66
             try clear c66b0
             try clear c66b1
             try clear c67
             try clear c67b0
             try clear c68
             try clear c68b0
             try clear c68b1
             try clear c71
             try clear c71b0
             try clear c72
             try clear c72b0
             try clear c72b1
             try clear c75
             try clear c75b0
             try clear c76
             try clear c76b0
             try clear c76b1
             try clear c77
             try clear c77b0
             try clear c78
             try clear c78b0
             try clear c78b1
             try clear c81
             try clear c81b0
             try clear c82
             try clear c82b0
             try clear c82b1
             try clear c85
             try clear c85b0
             try clear c86
             try clear c86b0
             try clear c86b1
             try clear c87
             try clear c87b0
             try clear c88
             try clear c88b0
             try clear c88b1
             try clear c91
             try clear c91b0
             try clear c92
             try clear c92b0
             try clear c92b1
             try clear c103
             try clear c112
             try clear c112b0
             try clear c112b1
             try clear c112b2
             try clear c113
             try clear c113b0
             try clear c113b1
             try clear c114
             try clear c114b0
             try clear c114b1
             try clear c114b2
             try clear c115
             try clear c115b0
             try clear c115b1
             try clear c116
             try clear c118
             try clear c121
             try clear c124
             try clear c125
             try clear c126
             try clear c128
             try clear c129
             try clear c129b0
             try clear c129b1
             try clear c130
             try clear c134
             try clear c135
             try clear c135b0
             try clear c135b1
             try clear c136
             try clear c145
             try clear c146
             try clear c151
             try clear c151b0
             try clear c151b1
             try clear c151b2
             try clear hcz104_0
             try clear hcz104_1
             try clear hcz106_0
             try clear hcz106_1
             try clear hcz108_0
             try clear hcz108_1
             try clear hcz110_0
             try clear hcz110_1
             try clear hcz122_0
             try clear hcz122_1
             try clear hcz131_0
             try clear hcz131_1
             try clear hcz137_0
             try clear hcz137_1
             try clear hcz147_0
             try clear hcz147_1
             try clear hcz149_0
             try clear hcz149_1
             try clear hcz45_0
             try clear hcz45_1
             try clear hcz54_0
             try clear hcz54_1
             try clear hcz61_0
             try clear hcz61_1
             try clear hcz69_0
             try clear hcz69_1
             try clear hcz70_0
             try clear hcz70_1
             try clear hcz73_0
             try clear hcz73_1
             try clear hcz74_0
             try clear hcz74_1
             try clear hcz79_0
             try clear hcz79_1
             try clear hcz80_0
             try clear hcz80_1
             try clear hcz83_0
             try clear hcz83_1
             try clear hcz84_0
             try clear hcz84_1
             try clear hcz89_0
             try clear hcz89_1
             try clear hcz90_0
             try clear hcz90_1
             try clear hcz93_0
             try clear hcz93_1
             try clear hcz94_0
             try clear hcz94_1
             try clear hfz104_0
             try clear hfz104_1
             try clear hfz106_0
             try clear hfz106_1
             try clear hfz108_0
             try clear hfz108_1
             try clear hfz110_0
             try clear hfz110_1
             try clear hfz122_0
             try clear hfz122_1
             try clear hfz131_0
             try clear hfz131_1
             try clear hfz137_0
             try clear hfz137_1
             try clear hfz147_0
             try clear hfz147_1
             try clear hfz149_0
             try clear hfz149_1
             try clear hfz45_0
             try clear hfz45_1
             try clear hfz54_0
             try clear hfz54_1
             try clear hfz61_0
             try clear hfz61_1
             try clear hfz69_0
             try clear hfz69_1
             try clear hfz70_0
             try clear hfz70_1
             try clear hfz73_0
             try clear hfz73_1
             try clear hfz74_0
             try clear hfz74_1
             try clear hfz79_0
             try clear hfz79_1
             try clear hfz80_0
             try clear hfz80_1
             try clear hfz83_0
             try clear hfz83_1
             try clear hfz84_0
             try clear hfz84_1
             try clear hfz89_0
             try clear hfz89_1
             try clear hfz90_0
             try clear hfz90_1
             try clear hfz93_0
             try clear hfz93_1
             try clear hfz94_0
             try clear hfz94_1
             try clear p2
             try clear p6
             try clear p64
             obtain ⟨kq, x352_141, rfl, HA, HJ141, BK318, BK338, BK359, HB⟩ := hcut
             cases kq with
             | zero => exact absurd HA.out (by simp [laws_FnWordsFit.j6])
             | succ kj141 =>
              have H := HA.out
              clear HA
              simp only [laws_FnWordsFit.j6] at H
              by_cases c152 : x352_141 = true
              ·as_aux_lemma =>
                subst c152
                have H1 := H
                rw [if_pos rfl] at H1
                clear H
                have H := H1
                clear H1
                exact absurd ((Option.some.inj H).trans HRT.out) (by decide)
              ·replace c152 := Bool.eq_false_iff.mpr c152
               subst c152
               have H1 := H
               rw [if_neg (show ¬ (false = true) by decide)] at H1
               clear H
               have H := H1
               clear H1
               by_cases c153 : t361 = true
               ·as_aux_lemma =>
                 subst c153
                 have H1 := H
                 rw [if_pos rfl] at H1
                 clear H
                 have H := H1
                 clear H1
                 replace H := Option.bind_eq_some_iff.mp H
                 obtain ⟨⟨t364, t365⟩, A1540, H⟩ := H
                 (try dsimp only at H)
                 have A154 := Aside0.mk A1540
                 clear A1540
                 replace H := Option.bind_eq_some_iff.mp H
                 obtain ⟨⟨t366, t367⟩, A1550, H⟩ := H
                 (try dsimp only at H)
                 have A155 := Aside0.mk A1550
                 clear A1550
                 by_cases c156 : t365 = true
                 ·subst c156
                  have H1 := H
                  rw [if_pos rfl] at H1
                  clear H
                  have H := H1
                  clear H1
                  by_cases c157 : t367 = true
                  ·subst c157
                   have H1 := H
                   rw [if_pos rfl] at H1
                   clear H
                   have H := H1
                   clear H1
                   obtain rfl := Option.some.inj H
                   go_wp2_with (first | ((with_reducible refine gate_callee (f := 42) rfl ?_); refine goesL_ (some 360) rfl rfl Try.func42 (by kernel_rfl) rfl #[.int .i64 (wrap64 (t355 * t356)), .int .i64 t357, .int .i64 t358] rfl (by (try simp only [List.map_toArray, List.map_cons, List.map_nil]); first | done | rfl | (simp only [List.length_drop, List.length_take]; rfl)) ?_; (with_reducible refine (impl_RoundShift.calls kj141 (wrap64 (t355 * t356)) t357 t358 t364 true _ A154.out).mono ?_); rintro e w' ⟨rfl, ⟨nd, rfl⟩⟩; refine ⟨_, rfl, ?_⟩; have hnb158 := NB359_318.out; have hnc158 := NB318_359.out; have hnb159 := NB359_338.out; have hnc159 := NB338_359.out; have hcz160_0 : wc.cell? ⟨gb359, 0, none⟩ = some (.int .i64 t353) := (blk_cell BK359.out 0).trans rfl; have hcz160_1 : wc.cell? ⟨gb359, 1, none⟩ = some (.bool t354) := (blk_cell BK359.out 1).trans rfl; have hfz160_0 := blk_frozen BK359.out 0; have hfz160_1 := blk_frozen BK359.out 1) | ((with_reducible refine gate_callee (f := 28) rfl ?_); refine goesL_ (some 366) rfl rfl Try.func28 (by kernel_rfl) rfl #[.agg #[.int .i64 t353, .bool t354], .int .i64 t364] rfl (by (try simp only [List.map_toArray, List.map_cons, List.map_nil]); first | done | rfl | (simp only [List.length_drop, List.length_take]; rfl)) ?_; (with_reducible refine (impl_FitNumber.calls t353 t354 t364 t366 true _ A155.out).mono ?_); rintro e w161 ⟨rfl, hb⟩; refine ⟨_, rfl, ?_⟩; have n0_ := Aside0.mk (blk_below (g := gb318) (o := .cells #[.int .i64 t315, .bool t316] 29 (0, 0)) (by (with_reducible repeat (first | refine blk_drewN ?_ _ | refine blk_drew ?_ | refine blk_alloc ?_ _)); exact BK318.out) hb); have n1_ := Aside0.mk (blk_below (g := gb338) (o := .cells #[.int .i64 t334, .bool t335] 29 (0, 0)) (by (with_reducible repeat (first | refine blk_drewN ?_ _ | refine blk_drew ?_ | refine blk_alloc ?_ _)); exact BK338.out) hb); have n2_ := Aside0.mk (blk_below (g := gb359) (o := .cells #[.int .i64 t353, .bool t354] 29 (0, 0)) (by (with_reducible repeat (first | refine blk_drewN ?_ _ | refine blk_drew ?_ | refine blk_alloc ?_ _)); exact BK359.out) hb); have n3_ := Aside0.mk (below_step (by repeat (first | (with_reducible first | exact HB.out | apply below_alloc | apply pw_below_drewN | apply below_drew1 | refine below_set ?_ GE318.out | refine below_set ?_ GE338.out | refine below_set ?_ GE359.out) | exact HB.out)) hb); clear BK318; clear BK338; clear BK359; clear HB; have BK318 := n0_; have BK338 := n1_; have BK359 := n2_; have HB := n3_; clear n0_ n1_ n2_ n3_; (try clear hb); (try clear hb2); (try clear hk); (try clear hi)))
                   go_ret
                   exact ⟨by first | rfl | (simp [errW_none, errW_some] <;> rfl) | (simp [*, errW_none, errW_some] <;> rfl), by repeat (first | (with_reducible first | exact HB.out | apply below_alloc | apply pw_below_drewN | apply below_drew1 | refine below_set ?_ GE318.out | refine below_set ?_ GE338.out | refine below_set ?_ GE359.out) | exact HB.out)⟩
                  ·replace c157 := Bool.eq_false_iff.mpr c157
                   subst c157
                   have H1 := H
                   rw [if_neg (show ¬ (false = true) by decide)] at H1
                   clear H
                   have H := H1
                   clear H1
                   exact absurd ((Option.some.inj H).trans HRT.out) (by decide)
                 ·replace c156 := Bool.eq_false_iff.mpr c156
                  subst c156
                  have H1 := H
                  rw [if_neg (show ¬ (false = true) by decide)] at H1
                  clear H
                  have H := H1
                  clear H1
                  exact absurd ((Option.some.inj H).trans HRT.out) (by decide)
               ·as_aux_lemma =>
                 replace c153 := Bool.eq_false_iff.mpr c153
                 subst c153
                 have H1 := H
                 rw [if_neg (show ¬ (false = true) by decide)] at H1
                 clear H
                 have H := H1
                 clear H1
                 obtain rfl := Option.some.inj H
                 go_wp2
                 go_ret
                 exact ⟨by first | rfl | (simp [errW_none, errW_some] <;> rfl) | (simp [*, errW_none, errW_some] <;> rfl), by repeat (first | (with_reducible first | exact HB.out | apply below_alloc | apply pw_below_drewN | apply below_drew1 | refine below_set ?_ GE318.out | refine below_set ?_ GE338.out | refine below_set ?_ GE359.out) | exact HB.out)⟩

/-- THE ONE PURE STATEMENT of laws_FnWordsFit: yours. -/
def laws_FnWordsFit.Pure : Prop := ∀ (l0 : List Int) (l1 : List Int), l0.length ≤ maxLen → l0.length * 1 ≤ 140737488351232 → (∀ x ∈ l0, (Lit.int .u8 x).wf = true) → l1.length ≤ maxLen → l1.length * 1 ≤ 140737488351232 → (∀ x ∈ l1, (Lit.int .u8 x).wf = true) → ∃ k, laws_FnWordsFit.f k l0 l1 = some true
theorem laws_FnWordsFit.walk (P : laws_FnWordsFit.Pure) (a0 : Option Addr) (len0 cap0 : Nat) (z0 : List Int) (a1 : Option Addr) (len1 cap1 : Nat) (z1 : List Int) (w : World) (w0 : (a0 = none ∧ len0 = 0 ∧ cap0 = 0 ∧ z0 = []) ∨ ∃ x, a0 = some x ∧ len0 ≤ cap0 ∧ cap0 ≤ maxLen ∧ z0.length = cap0 ∧ (∀ i, i < z0.length → w.cell? (x.add i) = some (.int .u8 (z0.getD i 0))) ∧ ∀ n ∈ z0, (Lit.int .u8 n).wf = true) (y0 : len0 * 1 ≤ 140737488351232) (w1 : (a1 = none ∧ len1 = 0 ∧ cap1 = 0 ∧ z1 = []) ∨ ∃ x, a1 = some x ∧ len1 ≤ cap1 ∧ cap1 ≤ maxLen ∧ z1.length = cap1 ∧ (∀ i, i < z1.length → w.cell? (x.add i) = some (.int .u8 (z1.getD i 0))) ∧ ∀ n ∈ z1, (Lit.int .u8 n).wf = true) (y1 : len1 * 1 ≤ 140737488351232) :
  Calls Try.prog 6 #[.slice a0 len0 cap0, .slice a1 len1 cap1] w fun e w' => e = .returned (.bool true) ∧ Below w.heap.size w w' := by
 obtain ⟨l0, rfl, hr0, hm0, hw0, hc0⟩ := ReadsInt.ofRowC w0
 obtain ⟨l1, rfl, hr1, hm1, hw1, hc1⟩ := ReadsInt.ofRowC w1
 obtain ⟨k, h⟩ := P l0 l1 hm0 y0 hw0 hm1 y1 hw1
 refine (laws_FnWordsFit.calls k _ _ l0 _ _ l1 true w (Kd.C_of_reads (d := (0 : Int)) (h1 := fun _ => rfl) hr0) hc0 (Kd.C_of_reads (d := (0 : Int)) (h1 := fun _ => rfl) hr1) hc1 h rfl).mono ?_
 rintro e w' ⟨rfl, hd⟩
 exact ⟨rfl, hd⟩

end Go.Proofs.Ythpdpbjgdndnmaa.PFnWordsFit
