/- What each Go function that the statement FnCombsWrap reaches answers, proved call by call. No condition beyond those that the theorems print. (Written by wip/tools/xprint.py of this repo, over the kit's print.) -/
import Derived.Test.YtjplcongellcmaaPFnCombsWrapx0
import Derived.Test.YtjplcongellcmaaPFnCombsWrapx1
import Derived.Test.YtjplcongellcmaaPFnCombsWrapx2
import Derived.Test.YtjplcongellcmaaPFnCombsWrapx3
import Derived.Test.YtjplcongellcmaaPFnCombsWrapx4
import Derived.Test.YtjplcongellcmaaPFnCombsWrapx5
import Derived.Test.YtjplcongellcmaaPFnCombsWrapx6
import Derived.Test.YtjplcongellcmaaPFnCombsWrapx7
import Derived.Test.YtjplcongellcmaaPFnCombsWrapx8
import Derived.Test.YtjplcongellcmaaPFnCombsWrapx9
namespace Go.Proofs.Ytjplcongellcmaa.PFnCombsWrap
open Go.RowKit Go.Proofs.YtjplcongellcmaaW.PrintWords Go.Proofs.YtjplcongellcmaaW.PrintLast Go.Proofs.YtjplcongellcmaaW.PrintMore
attribute [local go_sem] max2_int min2_int max_two min_two max_three min_three max_four min_four   -- for this text's walks alone
set_option linter.unusedVariables false
set_option linter.unusedSimpArgs false

/-! ### laws_FnCombsWrap: function 9 -/
mutual
def laws_FnCombsWrap.j0 : Nat → List Int → List Int → Int → Int → Int → List Int → Bool → List Int → Bool → Bool → Option (Bool)
 | 0, _, _, _, _, _, _, _, _, _, _ => none
 | k + 1, x1, x5, x6, x7, x8, x9, x10, x13, x14, x108 => if x108 = true then (some false) else (if x10 = true then (laws_FnCombsWrap.j1 k x1 x5 x6 x7 x8 x9 x13 x14) else (laws_FnCombsWrap.j1 k x1 x5 x6 x7 x8 x9 x13 false))
def laws_FnCombsWrap.j1 : Nat → List Int → List Int → Int → Int → Int → List Int → List Int → Bool → Option (Bool)
 | 0, _, _, _, _, _, _, _, _ => none
 | k + 1, x1, x5, x6, x7, x8, x9, x13, x112 => if x112 = true then (if (x9.length : Int) = (x13.length : Int) then (laws_FnCombsWrap.l0 k x1 x5 x6 x7 x8 x9 x13 x13 (x13.length : Int) 0) else (some false)) else (laws_FnCombsWrap.j6 k x1)
def laws_FnCombsWrap.j6 : Nat → List Int → Option (Bool)
 | 0, _ => none
 | k + 1, x1 => (spec_DrawWrappedRise.f k x1).bind fun bt592 => ((impl_WrappedRise.f k bt592.1 bt592.2.1 bt592.2.2.1 bt592.2.2.2).bind fun bt598 => ((spec_WrappedRise.f k bt592.1 bt592.2.1 bt592.2.2.1 bt592.2.2.2).bind fun bt602 => ((impl_ExactRise.f k bt592.1 bt592.2.2.1 bt592.2.2.2).bind fun bt606 => ((spec_ExactRise.f k bt592.1 bt592.2.2.1 bt592.2.2.2).bind fun bt610 => (if (bt598.2 != bt602.2) = true then (laws_FnCombsWrap.j7 k x1 bt592.1 bt592.2.1 bt592.2.2.2 bt598.1 bt598.2 bt606.1 bt606.2 true) else ((laws_iSame.f k bt598.1 bt602.1).bind fun t614 => (if t614 = true then (if (bt606.2 != bt610.2) = true then (laws_FnCombsWrap.j7 k x1 bt592.1 bt592.2.1 bt592.2.2.2 bt598.1 bt598.2 bt606.1 bt606.2 true) else ((laws_iSame.f k bt606.1 bt610.1).bind fun t615 => (laws_FnCombsWrap.j7 k x1 bt592.1 bt592.2.1 bt592.2.2.2 bt598.1 bt598.2 bt606.1 bt606.2 (!t615)))) else (laws_FnCombsWrap.j7 k x1 bt592.1 bt592.2.1 bt592.2.2.2 bt598.1 bt598.2 bt606.1 bt606.2 true))))))))
def laws_FnCombsWrap.j7 : Nat → List Int → List Int → Int → Int → List Int → Bool → List Int → Bool → Bool → Option (Bool)
 | 0, _, _, _, _, _, _, _, _, _ => none
 | k + 1, x1, x28, x29, x31, x32, x33, x36, x37, x272 => if x272 = true then (some false) else (if x33 = true then (laws_FnCombsWrap.j8 k x1 x28 x29 x31 x32 x36 x37) else (laws_FnCombsWrap.j8 k x1 x28 x29 x31 x32 x36 false))
def laws_FnCombsWrap.j8 : Nat → List Int → List Int → Int → Int → List Int → List Int → Bool → Option (Bool)
 | 0, _, _, _, _, _, _, _ => none
 | k + 1, x1, x28, x29, x31, x32, x36, x276 => if x276 = true then (if (x32.length : Int) = (x36.length : Int) then (laws_FnCombsWrap.j9 k x1 x29 x32 x36 ((x36.length : Int) != (wrap64 ((x28.length : Int) * x31)))) else (laws_FnCombsWrap.j9 k x1 x29 x32 x36 true)) else ((spec_DrawLeastBits.f k x1).bind fun bt628 => ((impl_LeastBits.f k bt628.1 bt628.2.1 bt628.2.2).bind fun bt633 => ((spec_LeastBits.f k bt628.1 bt628.2.1 bt628.2.2).bind fun bt635 => (if (bt633.2 == bt635.2) = true then (some (bt633.1 == bt635.1)) else (some false)))))
def laws_FnCombsWrap.j9 : Nat → List Int → Int → List Int → List Int → Bool → Option (Bool)
 | 0, _, _, _, _, _ => none
 | k + 1, x1, x29, x32, x36, x290 => if x290 = true then (some false) else (laws_FnCombsWrap.l3 k x1 x29 x32 x36 (x36.length : Int) 0)
def laws_FnCombsWrap.l3 : Nat → List Int → Int → List Int → List Int → Int → Int → Option (Bool)
 | 0, _, _, _, _, _, _ => none
 | k + 1, x1, x29, x32, x291, x292, x293 => if x293 < x292 then (if 0 ≤ x293 then (if x293 < (x291.length : Int) then (if x293 < (x32.length : Int) then ((laws_iWrap.f (rd x291 x293) x29).bind fun t618 => (if (rd x32 x293) = t618 then (laws_FnCombsWrap.l3 k x1 x29 x32 x291 x292 (wrap64 (x293 + 1))) else (some false))) else (none)) else (none)) else (none)) else ((spec_DrawLeastBits.f k x1).bind fun bt619 => ((impl_LeastBits.f k bt619.1 bt619.2.1 bt619.2.2).bind fun bt624 => ((spec_LeastBits.f k bt619.1 bt619.2.1 bt619.2.2).bind fun bt626 => (if (bt624.2 == bt626.2) = true then (some (bt624.1 == bt626.1)) else (some false)))))
def laws_FnCombsWrap.l0 : Nat → List Int → List Int → Int → Int → Int → List Int → List Int → List Int → Int → Int → Option (Bool)
 | 0, _, _, _, _, _, _, _, _, _, _ => none
 | k + 1, x1, x5, x6, x7, x8, x9, x13, x118, x119, x120 => if x120 < x119 then (if 0 ≤ x120 then (if x120 < (x118.length : Int) then (if x120 < (x9.length : Int) then ((laws_iWrap.f (rd x118 x120) x6).bind fun t581 => (if (rd x9 x120) = t581 then (laws_FnCombsWrap.l0 k x1 x5 x6 x7 x8 x9 x13 x118 x119 (wrap64 (x120 + 1))) else (some false))) else (none)) else (none)) else (none)) else ((impl_LeastBits.f k x5 x7 x8).bind fun bt582 => (if bt582.2 = true then (if bt582.1 ≤ x6 then (if bt582.1 = x6 then ((laws_iSame.f k x9 x13).bind fun t584 => (if t584 = true then (if x6 < bt582.1 then ((laws_iSame.f k x9 x13).bind fun t585 => (laws_FnCombsWrap.j3 k x1 x5 x6 x7 x8 x9 x13 t585)) else (laws_FnCombsWrap.j3 k x1 x5 x6 x7 x8 x9 x13 false)) else (laws_FnCombsWrap.j3 k x1 x5 x6 x7 x8 x9 x13 true))) else (if x6 < bt582.1 then ((laws_iSame.f k x9 x13).bind fun t586 => (laws_FnCombsWrap.j3 k x1 x5 x6 x7 x8 x9 x13 t586)) else (laws_FnCombsWrap.j3 k x1 x5 x6 x7 x8 x9 x13 false))) else (if x6 < bt582.1 then ((laws_iSame.f k x9 x13).bind fun t587 => (laws_FnCombsWrap.j3 k x1 x5 x6 x7 x8 x9 x13 t587)) else (laws_FnCombsWrap.j3 k x1 x5 x6 x7 x8 x9 x13 false))) else (laws_FnCombsWrap.j3 k x1 x5 x6 x7 x8 x9 x13 true)))
def laws_FnCombsWrap.j3 : Nat → List Int → List Int → Int → Int → Int → List Int → List Int → Bool → Option (Bool)
 | 0, _, _, _, _, _, _, _, _ => none
 | k + 1, x1, x5, x6, x7, x8, x9, x13, x168 => if x168 = true then (some false) else (laws_FnCombsWrap.l1 k x1 x5 x6 x7 x8 x9 x13 2)
def laws_FnCombsWrap.l1 : Nat → List Int → List Int → Int → Int → Int → List Int → List Int → Int → Option (Bool)
 | 0, _, _, _, _, _, _, _, _ => none
 | k + 1, x1, x5, x6, x7, x8, x9, x13, x22 => if x22 ≤ 16 then (if 0 ≤ (wrap64 (x22 - 1)) then (laws_FnCombsWrap.l2 k x1 x5 x6 x7 x8 x9 x13 true x22 (wrap64 (-(shl .i64 1 (wrap64 (x22 - 1))))) x5 (x5.length : Int) 0) else (none)) else (laws_FnCombsWrap.j6 k x1)
def laws_FnCombsWrap.l2 : Nat → List Int → List Int → Int → Int → Int → List Int → List Int → Bool → Int → Int → List Int → Int → Int → Option (Bool)
 | 0, _, _, _, _, _, _, _, _, _, _, _, _, _ => none
 | k + 1, x1, x5, x6, x7, x8, x9, x13, x21, x22, x23, x177, x178, x179 => if x179 < x178 then (if 0 ≤ x179 then (if x179 < (x177.length : Int) then (if x21 = true then (if (rd x177 x179) ≥ x23 then (laws_FnCombsWrap.l2 k x1 x5 x6 x7 x8 x9 x13 (decide ((rd x177 x179) < (wrap64 (-x23)))) x22 x23 x177 x178 (wrap64 (x179 + 1))) else (laws_FnCombsWrap.l2 k x1 x5 x6 x7 x8 x9 x13 false x22 x23 x177 x178 (wrap64 (x179 + 1)))) else (laws_FnCombsWrap.l2 k x1 x5 x6 x7 x8 x9 x13 false x22 x23 x177 x178 (wrap64 (x179 + 1)))) else (none)) else (none)) else (if x21 = true then ((impl_BitsForComb.f k x22 x7 x8).bind fun bt589 => (if bt589.2 = true then (if x6 ≥ bt589.1 then ((laws_iSame.f k x9 x13).bind fun t591 => (if t591 = true then (laws_FnCombsWrap.j6 k x1) else (some false))) else (laws_FnCombsWrap.j6 k x1)) else (laws_FnCombsWrap.j6 k x1))) else (laws_FnCombsWrap.l1 k x1 x5 x6 x7 x8 x9 x13 (wrap64 (x22 + 1))))
end
def laws_FnCombsWrap.f (k : Nat) (l0 : List Int) (l1 : List Int) : Option (Bool) := (laws_big.f l0 l1).bind fun t554 => (if t554 = true then (some true) else ((spec_DrawWrappedComb.f k l0).bind fun bt555 => ((impl_WrappedComb.f k bt555.1 bt555.2.1 bt555.2.2.1 bt555.2.2.2).bind fun bt561 => ((spec_WrappedComb.f k bt555.1 bt555.2.1 bt555.2.2.1 bt555.2.2.2).bind fun bt565 => ((impl_ExactComb.f k bt555.1 bt555.2.2.1 bt555.2.2.2).bind fun bt569 => ((spec_ExactComb.f k bt555.1 bt555.2.2.1 bt555.2.2.2).bind fun bt573 => (if (bt561.2 != bt565.2) = true then (laws_FnCombsWrap.j0 k l1 bt555.1 bt555.2.1 bt555.2.2.1 bt555.2.2.2 bt561.1 bt561.2 bt569.1 bt569.2 true) else ((laws_iSame.f k bt561.1 bt565.1).bind fun t577 => (if t577 = true then (if (bt569.2 != bt573.2) = true then (laws_FnCombsWrap.j0 k l1 bt555.1 bt555.2.1 bt555.2.2.1 bt555.2.2.2 bt561.1 bt561.2 bt569.1 bt569.2 true) else ((laws_iSame.f k bt569.1 bt573.1).bind fun t578 => (laws_FnCombsWrap.j0 k l1 bt555.1 bt555.2.1 bt555.2.2.1 bt555.2.2.2 bt561.1 bt561.2 bt569.1 bt569.2 (!t578)))) else (laws_FnCombsWrap.j0 k l1 bt555.1 bt555.2.1 bt555.2.2.1 bt555.2.2.2 bt561.1 bt561.2 bt569.1 bt569.2 true))))))))))
theorem laws_FnCombsWrap.mono_l : ∀ k, (∀ y0 y1 y2 y3 y4 y5 y6 y7 y8 y9, LeO (laws_FnCombsWrap.j0 k y0 y1 y2 y3 y4 y5 y6 y7 y8 y9) (laws_FnCombsWrap.j0 (k + 1) y0 y1 y2 y3 y4 y5 y6 y7 y8 y9)) ∧ (∀ y0 y1 y2 y3 y4 y5 y6 y7, LeO (laws_FnCombsWrap.j1 k y0 y1 y2 y3 y4 y5 y6 y7) (laws_FnCombsWrap.j1 (k + 1) y0 y1 y2 y3 y4 y5 y6 y7)) ∧ (∀ y0, LeO (laws_FnCombsWrap.j6 k y0) (laws_FnCombsWrap.j6 (k + 1) y0)) ∧ (∀ y0 y1 y2 y3 y4 y5 y6 y7 y8, LeO (laws_FnCombsWrap.j7 k y0 y1 y2 y3 y4 y5 y6 y7 y8) (laws_FnCombsWrap.j7 (k + 1) y0 y1 y2 y3 y4 y5 y6 y7 y8)) ∧ (∀ y0 y1 y2 y3 y4 y5 y6, LeO (laws_FnCombsWrap.j8 k y0 y1 y2 y3 y4 y5 y6) (laws_FnCombsWrap.j8 (k + 1) y0 y1 y2 y3 y4 y5 y6)) ∧ (∀ y0 y1 y2 y3 y4, LeO (laws_FnCombsWrap.j9 k y0 y1 y2 y3 y4) (laws_FnCombsWrap.j9 (k + 1) y0 y1 y2 y3 y4)) ∧ (∀ y0 y1 y2 y3 y4 y5, LeO (laws_FnCombsWrap.l3 k y0 y1 y2 y3 y4 y5) (laws_FnCombsWrap.l3 (k + 1) y0 y1 y2 y3 y4 y5)) ∧ (∀ y0 y1 y2 y3 y4 y5 y6 y7 y8 y9, LeO (laws_FnCombsWrap.l0 k y0 y1 y2 y3 y4 y5 y6 y7 y8 y9) (laws_FnCombsWrap.l0 (k + 1) y0 y1 y2 y3 y4 y5 y6 y7 y8 y9)) ∧ (∀ y0 y1 y2 y3 y4 y5 y6 y7, LeO (laws_FnCombsWrap.j3 k y0 y1 y2 y3 y4 y5 y6 y7) (laws_FnCombsWrap.j3 (k + 1) y0 y1 y2 y3 y4 y5 y6 y7)) ∧ (∀ y0 y1 y2 y3 y4 y5 y6 y7, LeO (laws_FnCombsWrap.l1 k y0 y1 y2 y3 y4 y5 y6 y7) (laws_FnCombsWrap.l1 (k + 1) y0 y1 y2 y3 y4 y5 y6 y7)) ∧ (∀ y0 y1 y2 y3 y4 y5 y6 y7 y8 y9 y10 y11 y12, LeO (laws_FnCombsWrap.l2 k y0 y1 y2 y3 y4 y5 y6 y7 y8 y9 y10 y11 y12) (laws_FnCombsWrap.l2 (k + 1) y0 y1 y2 y3 y4 y5 y6 y7 y8 y9 y10 y11 y12))
 | 0 => ⟨fun _ _ _ _ _ _ _ _ _ _ r h => by simp [laws_FnCombsWrap.j0] at h, fun _ _ _ _ _ _ _ _ r h => by simp [laws_FnCombsWrap.j1] at h, fun _ r h => by simp [laws_FnCombsWrap.j6] at h, fun _ _ _ _ _ _ _ _ _ r h => by simp [laws_FnCombsWrap.j7] at h, fun _ _ _ _ _ _ _ r h => by simp [laws_FnCombsWrap.j8] at h, fun _ _ _ _ _ r h => by simp [laws_FnCombsWrap.j9] at h, fun _ _ _ _ _ _ r h => by simp [laws_FnCombsWrap.l3] at h, fun _ _ _ _ _ _ _ _ _ _ r h => by simp [laws_FnCombsWrap.l0] at h, fun _ _ _ _ _ _ _ _ r h => by simp [laws_FnCombsWrap.j3] at h, fun _ _ _ _ _ _ _ _ r h => by simp [laws_FnCombsWrap.l1] at h, fun _ _ _ _ _ _ _ _ _ _ _ _ _ r h => by simp [laws_FnCombsWrap.l2] at h⟩
 | k + 1 => by
  obtain ⟨ih0, ih1, ih2, ih3, ih4, ih5, ih6, ih7, ih8, ih9, ih10⟩ := laws_FnCombsWrap.mono_l k
  refine ⟨?_, ?_, ?_, ?_, ?_, ?_, ?_, ?_, ?_, ?_, ?_⟩
  ·intro y0 y1 y2 y3 y4 y5 y6 y7 y8 y9
   unfold laws_FnCombsWrap.j0
   repeat' first
   | (with_reducible exact ih0 _ _ _ _ _ _ _ _ _ _)
   | (with_reducible exact ih1 _ _ _ _ _ _ _ _)
   | (with_reducible exact ih2 _)
   | (with_reducible exact ih3 _ _ _ _ _ _ _ _ _)
   | (with_reducible exact ih4 _ _ _ _ _ _ _)
   | (with_reducible exact ih5 _ _ _ _ _)
   | (with_reducible exact ih6 _ _ _ _ _ _)
   | (with_reducible exact ih7 _ _ _ _ _ _ _ _ _ _)
   | (with_reducible exact ih8 _ _ _ _ _ _ _ _)
   | (with_reducible exact ih9 _ _ _ _ _ _ _ _)
   | (with_reducible exact ih10 _ _ _ _ _ _ _ _ _ _ _ _ _)
   | (with_reducible exact impl_BitsForComb.mono _ _ _ _)
   | (with_reducible exact impl_ExactComb.mono _ _ _ _)
   | (with_reducible exact impl_ExactRise.mono _ _ _ _)
   | (with_reducible exact impl_LeastBits.mono _ _ _ _)
   | (with_reducible exact impl_WrappedComb.mono _ _ _ _ _)
   | (with_reducible exact impl_WrappedRise.mono _ _ _ _ _)
   | (with_reducible exact laws_iSame.mono _ _ _)
   | (with_reducible exact spec_DrawLeastBits.mono _ _)
   | (with_reducible exact spec_DrawWrappedComb.mono _ _)
   | (with_reducible exact spec_DrawWrappedRise.mono _ _)
   | (with_reducible exact spec_ExactComb.mono _ _ _ _)
   | (with_reducible exact spec_ExactRise.mono _ _ _ _)
   | (with_reducible exact spec_LeastBits.mono _ _ _ _)
   | (with_reducible exact spec_WrappedComb.mono _ _ _ _ _)
   | (with_reducible exact spec_WrappedRise.mono _ _ _ _ _)
   | (with_reducible exact LeO.refl _)
   | (with_reducible exact LeO.none _)
   | (with_reducible refine LeO.ite ?_ ?_)
   | (with_reducible refine LeO.bind ?_ (fun _ => ?_))
   | exact ih0 _ _ _ _ _ _ _ _ _ _
   | exact ih1 _ _ _ _ _ _ _ _
   | exact ih2 _
   | exact ih3 _ _ _ _ _ _ _ _ _
   | exact ih4 _ _ _ _ _ _ _
   | exact ih5 _ _ _ _ _
   | exact ih6 _ _ _ _ _ _
   | exact ih7 _ _ _ _ _ _ _ _ _ _
   | exact ih8 _ _ _ _ _ _ _ _
   | exact ih9 _ _ _ _ _ _ _ _
   | exact ih10 _ _ _ _ _ _ _ _ _ _ _ _ _
   | exact impl_BitsForComb.mono _ _ _ _
   | exact impl_ExactComb.mono _ _ _ _
   | exact impl_ExactRise.mono _ _ _ _
   | exact impl_LeastBits.mono _ _ _ _
   | exact impl_WrappedComb.mono _ _ _ _ _
   | exact impl_WrappedRise.mono _ _ _ _ _
   | exact laws_iSame.mono _ _ _
   | exact spec_DrawLeastBits.mono _ _
   | exact spec_DrawWrappedComb.mono _ _
   | exact spec_DrawWrappedRise.mono _ _
   | exact spec_ExactComb.mono _ _ _ _
   | exact spec_ExactRise.mono _ _ _ _
   | exact spec_LeastBits.mono _ _ _ _
   | exact spec_WrappedComb.mono _ _ _ _ _
   | exact spec_WrappedRise.mono _ _ _ _ _
   | exact LeO.none _
   | refine LeO.ite ?_ ?_
   | refine LeO.bind ?_ (fun _ => ?_)
  ·intro y0 y1 y2 y3 y4 y5 y6 y7
   unfold laws_FnCombsWrap.j1
   repeat' first
   | (with_reducible exact ih0 _ _ _ _ _ _ _ _ _ _)
   | (with_reducible exact ih1 _ _ _ _ _ _ _ _)
   | (with_reducible exact ih2 _)
   | (with_reducible exact ih3 _ _ _ _ _ _ _ _ _)
   | (with_reducible exact ih4 _ _ _ _ _ _ _)
   | (with_reducible exact ih5 _ _ _ _ _)
   | (with_reducible exact ih6 _ _ _ _ _ _)
   | (with_reducible exact ih7 _ _ _ _ _ _ _ _ _ _)
   | (with_reducible exact ih8 _ _ _ _ _ _ _ _)
   | (with_reducible exact ih9 _ _ _ _ _ _ _ _)
   | (with_reducible exact ih10 _ _ _ _ _ _ _ _ _ _ _ _ _)
   | (with_reducible exact impl_BitsForComb.mono _ _ _ _)
   | (with_reducible exact impl_ExactComb.mono _ _ _ _)
   | (with_reducible exact impl_ExactRise.mono _ _ _ _)
   | (with_reducible exact impl_LeastBits.mono _ _ _ _)
   | (with_reducible exact impl_WrappedComb.mono _ _ _ _ _)
   | (with_reducible exact impl_WrappedRise.mono _ _ _ _ _)
   | (with_reducible exact laws_iSame.mono _ _ _)
   | (with_reducible exact spec_DrawLeastBits.mono _ _)
   | (with_reducible exact spec_DrawWrappedComb.mono _ _)
   | (with_reducible exact spec_DrawWrappedRise.mono _ _)
   | (with_reducible exact spec_ExactComb.mono _ _ _ _)
   | (with_reducible exact spec_ExactRise.mono _ _ _ _)
   | (with_reducible exact spec_LeastBits.mono _ _ _ _)
   | (with_reducible exact spec_WrappedComb.mono _ _ _ _ _)
   | (with_reducible exact spec_WrappedRise.mono _ _ _ _ _)
   | (with_reducible exact LeO.refl _)
   | (with_reducible exact LeO.none _)
   | (with_reducible refine LeO.ite ?_ ?_)
   | (with_reducible refine LeO.bind ?_ (fun _ => ?_))
   | exact ih0 _ _ _ _ _ _ _ _ _ _
   | exact ih1 _ _ _ _ _ _ _ _
   | exact ih2 _
   | exact ih3 _ _ _ _ _ _ _ _ _
   | exact ih4 _ _ _ _ _ _ _
   | exact ih5 _ _ _ _ _
   | exact ih6 _ _ _ _ _ _
   | exact ih7 _ _ _ _ _ _ _ _ _ _
   | exact ih8 _ _ _ _ _ _ _ _
   | exact ih9 _ _ _ _ _ _ _ _
   | exact ih10 _ _ _ _ _ _ _ _ _ _ _ _ _
   | exact impl_BitsForComb.mono _ _ _ _
   | exact impl_ExactComb.mono _ _ _ _
   | exact impl_ExactRise.mono _ _ _ _
   | exact impl_LeastBits.mono _ _ _ _
   | exact impl_WrappedComb.mono _ _ _ _ _
   | exact impl_WrappedRise.mono _ _ _ _ _
   | exact laws_iSame.mono _ _ _
   | exact spec_DrawLeastBits.mono _ _
   | exact spec_DrawWrappedComb.mono _ _
   | exact spec_DrawWrappedRise.mono _ _
   | exact spec_ExactComb.mono _ _ _ _
   | exact spec_ExactRise.mono _ _ _ _
   | exact spec_LeastBits.mono _ _ _ _
   | exact spec_WrappedComb.mono _ _ _ _ _
   | exact spec_WrappedRise.mono _ _ _ _ _
   | exact LeO.none _
   | refine LeO.ite ?_ ?_
   | refine LeO.bind ?_ (fun _ => ?_)
  ·intro y0
   unfold laws_FnCombsWrap.j6
   repeat' first
   | (with_reducible exact ih0 _ _ _ _ _ _ _ _ _ _)
   | (with_reducible exact ih1 _ _ _ _ _ _ _ _)
   | (with_reducible exact ih2 _)
   | (with_reducible exact ih3 _ _ _ _ _ _ _ _ _)
   | (with_reducible exact ih4 _ _ _ _ _ _ _)
   | (with_reducible exact ih5 _ _ _ _ _)
   | (with_reducible exact ih6 _ _ _ _ _ _)
   | (with_reducible exact ih7 _ _ _ _ _ _ _ _ _ _)
   | (with_reducible exact ih8 _ _ _ _ _ _ _ _)
   | (with_reducible exact ih9 _ _ _ _ _ _ _ _)
   | (with_reducible exact ih10 _ _ _ _ _ _ _ _ _ _ _ _ _)
   | (with_reducible exact impl_BitsForComb.mono _ _ _ _)
   | (with_reducible exact impl_ExactComb.mono _ _ _ _)
   | (with_reducible exact impl_ExactRise.mono _ _ _ _)
   | (with_reducible exact impl_LeastBits.mono _ _ _ _)
   | (with_reducible exact impl_WrappedComb.mono _ _ _ _ _)
   | (with_reducible exact impl_WrappedRise.mono _ _ _ _ _)
   | (with_reducible exact laws_iSame.mono _ _ _)
   | (with_reducible exact spec_DrawLeastBits.mono _ _)
   | (with_reducible exact spec_DrawWrappedComb.mono _ _)
   | (with_reducible exact spec_DrawWrappedRise.mono _ _)
   | (with_reducible exact spec_ExactComb.mono _ _ _ _)
   | (with_reducible exact spec_ExactRise.mono _ _ _ _)
   | (with_reducible exact spec_LeastBits.mono _ _ _ _)
   | (with_reducible exact spec_WrappedComb.mono _ _ _ _ _)
   | (with_reducible exact spec_WrappedRise.mono _ _ _ _ _)
   | (with_reducible exact LeO.refl _)
   | (with_reducible exact LeO.none _)
   | (with_reducible refine LeO.ite ?_ ?_)
   | (with_reducible refine LeO.bind ?_ (fun _ => ?_))
   | exact ih0 _ _ _ _ _ _ _ _ _ _
   | exact ih1 _ _ _ _ _ _ _ _
   | exact ih2 _
   | exact ih3 _ _ _ _ _ _ _ _ _
   | exact ih4 _ _ _ _ _ _ _
   | exact ih5 _ _ _ _ _
   | exact ih6 _ _ _ _ _ _
   | exact ih7 _ _ _ _ _ _ _ _ _ _
   | exact ih8 _ _ _ _ _ _ _ _
   | exact ih9 _ _ _ _ _ _ _ _
   | exact ih10 _ _ _ _ _ _ _ _ _ _ _ _ _
   | exact impl_BitsForComb.mono _ _ _ _
   | exact impl_ExactComb.mono _ _ _ _
   | exact impl_ExactRise.mono _ _ _ _
   | exact impl_LeastBits.mono _ _ _ _
   | exact impl_WrappedComb.mono _ _ _ _ _
   | exact impl_WrappedRise.mono _ _ _ _ _
   | exact laws_iSame.mono _ _ _
   | exact spec_DrawLeastBits.mono _ _
   | exact spec_DrawWrappedComb.mono _ _
   | exact spec_DrawWrappedRise.mono _ _
   | exact spec_ExactComb.mono _ _ _ _
   | exact spec_ExactRise.mono _ _ _ _
   | exact spec_LeastBits.mono _ _ _ _
   | exact spec_WrappedComb.mono _ _ _ _ _
   | exact spec_WrappedRise.mono _ _ _ _ _
   | exact LeO.none _
   | refine LeO.ite ?_ ?_
   | refine LeO.bind ?_ (fun _ => ?_)
  ·intro y0 y1 y2 y3 y4 y5 y6 y7 y8
   unfold laws_FnCombsWrap.j7
   repeat' first
   | (with_reducible exact ih0 _ _ _ _ _ _ _ _ _ _)
   | (with_reducible exact ih1 _ _ _ _ _ _ _ _)
   | (with_reducible exact ih2 _)
   | (with_reducible exact ih3 _ _ _ _ _ _ _ _ _)
   | (with_reducible exact ih4 _ _ _ _ _ _ _)
   | (with_reducible exact ih5 _ _ _ _ _)
   | (with_reducible exact ih6 _ _ _ _ _ _)
   | (with_reducible exact ih7 _ _ _ _ _ _ _ _ _ _)
   | (with_reducible exact ih8 _ _ _ _ _ _ _ _)
   | (with_reducible exact ih9 _ _ _ _ _ _ _ _)
   | (with_reducible exact ih10 _ _ _ _ _ _ _ _ _ _ _ _ _)
   | (with_reducible exact impl_BitsForComb.mono _ _ _ _)
   | (with_reducible exact impl_ExactComb.mono _ _ _ _)
   | (with_reducible exact impl_ExactRise.mono _ _ _ _)
   | (with_reducible exact impl_LeastBits.mono _ _ _ _)
   | (with_reducible exact impl_WrappedComb.mono _ _ _ _ _)
   | (with_reducible exact impl_WrappedRise.mono _ _ _ _ _)
   | (with_reducible exact laws_iSame.mono _ _ _)
   | (with_reducible exact spec_DrawLeastBits.mono _ _)
   | (with_reducible exact spec_DrawWrappedComb.mono _ _)
   | (with_reducible exact spec_DrawWrappedRise.mono _ _)
   | (with_reducible exact spec_ExactComb.mono _ _ _ _)
   | (with_reducible exact spec_ExactRise.mono _ _ _ _)
   | (with_reducible exact spec_LeastBits.mono _ _ _ _)
   | (with_reducible exact spec_WrappedComb.mono _ _ _ _ _)
   | (with_reducible exact spec_WrappedRise.mono _ _ _ _ _)
   | (with_reducible exact LeO.refl _)
   | (with_reducible exact LeO.none _)
   | (with_reducible refine LeO.ite ?_ ?_)
   | (with_reducible refine LeO.bind ?_ (fun _ => ?_))
   | exact ih0 _ _ _ _ _ _ _ _ _ _
   | exact ih1 _ _ _ _ _ _ _ _
   | exact ih2 _
   | exact ih3 _ _ _ _ _ _ _ _ _
   | exact ih4 _ _ _ _ _ _ _
   | exact ih5 _ _ _ _ _
   | exact ih6 _ _ _ _ _ _
   | exact ih7 _ _ _ _ _ _ _ _ _ _
   | exact ih8 _ _ _ _ _ _ _ _
   | exact ih9 _ _ _ _ _ _ _ _
   | exact ih10 _ _ _ _ _ _ _ _ _ _ _ _ _
   | exact impl_BitsForComb.mono _ _ _ _
   | exact impl_ExactComb.mono _ _ _ _
   | exact impl_ExactRise.mono _ _ _ _
   | exact impl_LeastBits.mono _ _ _ _
   | exact impl_WrappedComb.mono _ _ _ _ _
   | exact impl_WrappedRise.mono _ _ _ _ _
   | exact laws_iSame.mono _ _ _
   | exact spec_DrawLeastBits.mono _ _
   | exact spec_DrawWrappedComb.mono _ _
   | exact spec_DrawWrappedRise.mono _ _
   | exact spec_ExactComb.mono _ _ _ _
   | exact spec_ExactRise.mono _ _ _ _
   | exact spec_LeastBits.mono _ _ _ _
   | exact spec_WrappedComb.mono _ _ _ _ _
   | exact spec_WrappedRise.mono _ _ _ _ _
   | exact LeO.none _
   | refine LeO.ite ?_ ?_
   | refine LeO.bind ?_ (fun _ => ?_)
  ·intro y0 y1 y2 y3 y4 y5 y6
   unfold laws_FnCombsWrap.j8
   repeat' first
   | (with_reducible exact ih0 _ _ _ _ _ _ _ _ _ _)
   | (with_reducible exact ih1 _ _ _ _ _ _ _ _)
   | (with_reducible exact ih2 _)
   | (with_reducible exact ih3 _ _ _ _ _ _ _ _ _)
   | (with_reducible exact ih4 _ _ _ _ _ _ _)
   | (with_reducible exact ih5 _ _ _ _ _)
   | (with_reducible exact ih6 _ _ _ _ _ _)
   | (with_reducible exact ih7 _ _ _ _ _ _ _ _ _ _)
   | (with_reducible exact ih8 _ _ _ _ _ _ _ _)
   | (with_reducible exact ih9 _ _ _ _ _ _ _ _)
   | (with_reducible exact ih10 _ _ _ _ _ _ _ _ _ _ _ _ _)
   | (with_reducible exact impl_BitsForComb.mono _ _ _ _)
   | (with_reducible exact impl_ExactComb.mono _ _ _ _)
   | (with_reducible exact impl_ExactRise.mono _ _ _ _)
   | (with_reducible exact impl_LeastBits.mono _ _ _ _)
   | (with_reducible exact impl_WrappedComb.mono _ _ _ _ _)
   | (with_reducible exact impl_WrappedRise.mono _ _ _ _ _)
   | (with_reducible exact laws_iSame.mono _ _ _)
   | (with_reducible exact spec_DrawLeastBits.mono _ _)
   | (with_reducible exact spec_DrawWrappedComb.mono _ _)
   | (with_reducible exact spec_DrawWrappedRise.mono _ _)
   | (with_reducible exact spec_ExactComb.mono _ _ _ _)
   | (with_reducible exact spec_ExactRise.mono _ _ _ _)
   | (with_reducible exact spec_LeastBits.mono _ _ _ _)
   | (with_reducible exact spec_WrappedComb.mono _ _ _ _ _)
   | (with_reducible exact spec_WrappedRise.mono _ _ _ _ _)
   | (with_reducible exact LeO.refl _)
   | (with_reducible exact LeO.none _)
   | (with_reducible refine LeO.ite ?_ ?_)
   | (with_reducible refine LeO.bind ?_ (fun _ => ?_))
   | exact ih0 _ _ _ _ _ _ _ _ _ _
   | exact ih1 _ _ _ _ _ _ _ _
   | exact ih2 _
   | exact ih3 _ _ _ _ _ _ _ _ _
   | exact ih4 _ _ _ _ _ _ _
   | exact ih5 _ _ _ _ _
   | exact ih6 _ _ _ _ _ _
   | exact ih7 _ _ _ _ _ _ _ _ _ _
   | exact ih8 _ _ _ _ _ _ _ _
   | exact ih9 _ _ _ _ _ _ _ _
   | exact ih10 _ _ _ _ _ _ _ _ _ _ _ _ _
   | exact impl_BitsForComb.mono _ _ _ _
   | exact impl_ExactComb.mono _ _ _ _
   | exact impl_ExactRise.mono _ _ _ _
   | exact impl_LeastBits.mono _ _ _ _
   | exact impl_WrappedComb.mono _ _ _ _ _
   | exact impl_WrappedRise.mono _ _ _ _ _
   | exact laws_iSame.mono _ _ _
   | exact spec_DrawLeastBits.mono _ _
   | exact spec_DrawWrappedComb.mono _ _
   | exact spec_DrawWrappedRise.mono _ _
   | exact spec_ExactComb.mono _ _ _ _
   | exact spec_ExactRise.mono _ _ _ _
   | exact spec_LeastBits.mono _ _ _ _
   | exact spec_WrappedComb.mono _ _ _ _ _
   | exact spec_WrappedRise.mono _ _ _ _ _
   | exact LeO.none _
   | refine LeO.ite ?_ ?_
   | refine LeO.bind ?_ (fun _ => ?_)
  ·intro y0 y1 y2 y3 y4
   unfold laws_FnCombsWrap.j9
   repeat' first
   | (with_reducible exact ih0 _ _ _ _ _ _ _ _ _ _)
   | (with_reducible exact ih1 _ _ _ _ _ _ _ _)
   | (with_reducible exact ih2 _)
   | (with_reducible exact ih3 _ _ _ _ _ _ _ _ _)
   | (with_reducible exact ih4 _ _ _ _ _ _ _)
   | (with_reducible exact ih5 _ _ _ _ _)
   | (with_reducible exact ih6 _ _ _ _ _ _)
   | (with_reducible exact ih7 _ _ _ _ _ _ _ _ _ _)
   | (with_reducible exact ih8 _ _ _ _ _ _ _ _)
   | (with_reducible exact ih9 _ _ _ _ _ _ _ _)
   | (with_reducible exact ih10 _ _ _ _ _ _ _ _ _ _ _ _ _)
   | (with_reducible exact impl_BitsForComb.mono _ _ _ _)
   | (with_reducible exact impl_ExactComb.mono _ _ _ _)
   | (with_reducible exact impl_ExactRise.mono _ _ _ _)
   | (with_reducible exact impl_LeastBits.mono _ _ _ _)
   | (with_reducible exact impl_WrappedComb.mono _ _ _ _ _)
   | (with_reducible exact impl_WrappedRise.mono _ _ _ _ _)
   | (with_reducible exact laws_iSame.mono _ _ _)
   | (with_reducible exact spec_DrawLeastBits.mono _ _)
   | (with_reducible exact spec_DrawWrappedComb.mono _ _)
   | (with_reducible exact spec_DrawWrappedRise.mono _ _)
   | (with_reducible exact spec_ExactComb.mono _ _ _ _)
   | (with_reducible exact spec_ExactRise.mono _ _ _ _)
   | (with_reducible exact spec_LeastBits.mono _ _ _ _)
   | (with_reducible exact spec_WrappedComb.mono _ _ _ _ _)
   | (with_reducible exact spec_WrappedRise.mono _ _ _ _ _)
   | (with_reducible exact LeO.refl _)
   | (with_reducible exact LeO.none _)
   | (with_reducible refine LeO.ite ?_ ?_)
   | (with_reducible refine LeO.bind ?_ (fun _ => ?_))
   | exact ih0 _ _ _ _ _ _ _ _ _ _
   | exact ih1 _ _ _ _ _ _ _ _
   | exact ih2 _
   | exact ih3 _ _ _ _ _ _ _ _ _
   | exact ih4 _ _ _ _ _ _ _
   | exact ih5 _ _ _ _ _
   | exact ih6 _ _ _ _ _ _
   | exact ih7 _ _ _ _ _ _ _ _ _ _
   | exact ih8 _ _ _ _ _ _ _ _
   | exact ih9 _ _ _ _ _ _ _ _
   | exact ih10 _ _ _ _ _ _ _ _ _ _ _ _ _
   | exact impl_BitsForComb.mono _ _ _ _
   | exact impl_ExactComb.mono _ _ _ _
   | exact impl_ExactRise.mono _ _ _ _
   | exact impl_LeastBits.mono _ _ _ _
   | exact impl_WrappedComb.mono _ _ _ _ _
   | exact impl_WrappedRise.mono _ _ _ _ _
   | exact laws_iSame.mono _ _ _
   | exact spec_DrawLeastBits.mono _ _
   | exact spec_DrawWrappedComb.mono _ _
   | exact spec_DrawWrappedRise.mono _ _
   | exact spec_ExactComb.mono _ _ _ _
   | exact spec_ExactRise.mono _ _ _ _
   | exact spec_LeastBits.mono _ _ _ _
   | exact spec_WrappedComb.mono _ _ _ _ _
   | exact spec_WrappedRise.mono _ _ _ _ _
   | exact LeO.none _
   | refine LeO.ite ?_ ?_
   | refine LeO.bind ?_ (fun _ => ?_)
  ·intro y0 y1 y2 y3 y4 y5
   unfold laws_FnCombsWrap.l3
   repeat' first
   | (with_reducible exact ih0 _ _ _ _ _ _ _ _ _ _)
   | (with_reducible exact ih1 _ _ _ _ _ _ _ _)
   | (with_reducible exact ih2 _)
   | (with_reducible exact ih3 _ _ _ _ _ _ _ _ _)
   | (with_reducible exact ih4 _ _ _ _ _ _ _)
   | (with_reducible exact ih5 _ _ _ _ _)
   | (with_reducible exact ih6 _ _ _ _ _ _)
   | (with_reducible exact ih7 _ _ _ _ _ _ _ _ _ _)
   | (with_reducible exact ih8 _ _ _ _ _ _ _ _)
   | (with_reducible exact ih9 _ _ _ _ _ _ _ _)
   | (with_reducible exact ih10 _ _ _ _ _ _ _ _ _ _ _ _ _)
   | (with_reducible exact impl_BitsForComb.mono _ _ _ _)
   | (with_reducible exact impl_ExactComb.mono _ _ _ _)
   | (with_reducible exact impl_ExactRise.mono _ _ _ _)
   | (with_reducible exact impl_LeastBits.mono _ _ _ _)
   | (with_reducible exact impl_WrappedComb.mono _ _ _ _ _)
   | (with_reducible exact impl_WrappedRise.mono _ _ _ _ _)
   | (with_reducible exact laws_iSame.mono _ _ _)
   | (with_reducible exact spec_DrawLeastBits.mono _ _)
   | (with_reducible exact spec_DrawWrappedComb.mono _ _)
   | (with_reducible exact spec_DrawWrappedRise.mono _ _)
   | (with_reducible exact spec_ExactComb.mono _ _ _ _)
   | (with_reducible exact spec_ExactRise.mono _ _ _ _)
   | (with_reducible exact spec_LeastBits.mono _ _ _ _)
   | (with_reducible exact spec_WrappedComb.mono _ _ _ _ _)
   | (with_reducible exact spec_WrappedRise.mono _ _ _ _ _)
   | (with_reducible exact LeO.refl _)
   | (with_reducible exact LeO.none _)
   | (with_reducible refine LeO.ite ?_ ?_)
   | (with_reducible refine LeO.bind ?_ (fun _ => ?_))
   | exact ih0 _ _ _ _ _ _ _ _ _ _
   | exact ih1 _ _ _ _ _ _ _ _
   | exact ih2 _
   | exact ih3 _ _ _ _ _ _ _ _ _
   | exact ih4 _ _ _ _ _ _ _
   | exact ih5 _ _ _ _ _
   | exact ih6 _ _ _ _ _ _
   | exact ih7 _ _ _ _ _ _ _ _ _ _
   | exact ih8 _ _ _ _ _ _ _ _
   | exact ih9 _ _ _ _ _ _ _ _
   | exact ih10 _ _ _ _ _ _ _ _ _ _ _ _ _
   | exact impl_BitsForComb.mono _ _ _ _
   | exact impl_ExactComb.mono _ _ _ _
   | exact impl_ExactRise.mono _ _ _ _
   | exact impl_LeastBits.mono _ _ _ _
   | exact impl_WrappedComb.mono _ _ _ _ _
   | exact impl_WrappedRise.mono _ _ _ _ _
   | exact laws_iSame.mono _ _ _
   | exact spec_DrawLeastBits.mono _ _
   | exact spec_DrawWrappedComb.mono _ _
   | exact spec_DrawWrappedRise.mono _ _
   | exact spec_ExactComb.mono _ _ _ _
   | exact spec_ExactRise.mono _ _ _ _
   | exact spec_LeastBits.mono _ _ _ _
   | exact spec_WrappedComb.mono _ _ _ _ _
   | exact spec_WrappedRise.mono _ _ _ _ _
   | exact LeO.none _
   | refine LeO.ite ?_ ?_
   | refine LeO.bind ?_ (fun _ => ?_)
  ·intro y0 y1 y2 y3 y4 y5 y6 y7 y8 y9
   unfold laws_FnCombsWrap.l0
   repeat' first
   | (with_reducible exact ih0 _ _ _ _ _ _ _ _ _ _)
   | (with_reducible exact ih1 _ _ _ _ _ _ _ _)
   | (with_reducible exact ih2 _)
   | (with_reducible exact ih3 _ _ _ _ _ _ _ _ _)
   | (with_reducible exact ih4 _ _ _ _ _ _ _)
   | (with_reducible exact ih5 _ _ _ _ _)
   | (with_reducible exact ih6 _ _ _ _ _ _)
   | (with_reducible exact ih7 _ _ _ _ _ _ _ _ _ _)
   | (with_reducible exact ih8 _ _ _ _ _ _ _ _)
   | (with_reducible exact ih9 _ _ _ _ _ _ _ _)
   | (with_reducible exact ih10 _ _ _ _ _ _ _ _ _ _ _ _ _)
   | (with_reducible exact impl_BitsForComb.mono _ _ _ _)
   | (with_reducible exact impl_ExactComb.mono _ _ _ _)
   | (with_reducible exact impl_ExactRise.mono _ _ _ _)
   | (with_reducible exact impl_LeastBits.mono _ _ _ _)
   | (with_reducible exact impl_WrappedComb.mono _ _ _ _ _)
   | (with_reducible exact impl_WrappedRise.mono _ _ _ _ _)
   | (with_reducible exact laws_iSame.mono _ _ _)
   | (with_reducible exact spec_DrawLeastBits.mono _ _)
   | (with_reducible exact spec_DrawWrappedComb.mono _ _)
   | (with_reducible exact spec_DrawWrappedRise.mono _ _)
   | (with_reducible exact spec_ExactComb.mono _ _ _ _)
   | (with_reducible exact spec_ExactRise.mono _ _ _ _)
   | (with_reducible exact spec_LeastBits.mono _ _ _ _)
   | (with_reducible exact spec_WrappedComb.mono _ _ _ _ _)
   | (with_reducible exact spec_WrappedRise.mono _ _ _ _ _)
   | (with_reducible exact LeO.refl _)
   | (with_reducible exact LeO.none _)
   | (with_reducible refine LeO.ite ?_ ?_)
   | (with_reducible refine LeO.bind ?_ (fun _ => ?_))
   | exact ih0 _ _ _ _ _ _ _ _ _ _
   | exact ih1 _ _ _ _ _ _ _ _
   | exact ih2 _
   | exact ih3 _ _ _ _ _ _ _ _ _
   | exact ih4 _ _ _ _ _ _ _
   | exact ih5 _ _ _ _ _
   | exact ih6 _ _ _ _ _ _
   | exact ih7 _ _ _ _ _ _ _ _ _ _
   | exact ih8 _ _ _ _ _ _ _ _
   | exact ih9 _ _ _ _ _ _ _ _
   | exact ih10 _ _ _ _ _ _ _ _ _ _ _ _ _
   | exact impl_BitsForComb.mono _ _ _ _
   | exact impl_ExactComb.mono _ _ _ _
   | exact impl_ExactRise.mono _ _ _ _
   | exact impl_LeastBits.mono _ _ _ _
   | exact impl_WrappedComb.mono _ _ _ _ _
   | exact impl_WrappedRise.mono _ _ _ _ _
   | exact laws_iSame.mono _ _ _
   | exact spec_DrawLeastBits.mono _ _
   | exact spec_DrawWrappedComb.mono _ _
   | exact spec_DrawWrappedRise.mono _ _
   | exact spec_ExactComb.mono _ _ _ _
   | exact spec_ExactRise.mono _ _ _ _
   | exact spec_LeastBits.mono _ _ _ _
   | exact spec_WrappedComb.mono _ _ _ _ _
   | exact spec_WrappedRise.mono _ _ _ _ _
   | exact LeO.none _
   | refine LeO.ite ?_ ?_
   | refine LeO.bind ?_ (fun _ => ?_)
  ·intro y0 y1 y2 y3 y4 y5 y6 y7
   unfold laws_FnCombsWrap.j3
   repeat' first
   | (with_reducible exact ih0 _ _ _ _ _ _ _ _ _ _)
   | (with_reducible exact ih1 _ _ _ _ _ _ _ _)
   | (with_reducible exact ih2 _)
   | (with_reducible exact ih3 _ _ _ _ _ _ _ _ _)
   | (with_reducible exact ih4 _ _ _ _ _ _ _)
   | (with_reducible exact ih5 _ _ _ _ _)
   | (with_reducible exact ih6 _ _ _ _ _ _)
   | (with_reducible exact ih7 _ _ _ _ _ _ _ _ _ _)
   | (with_reducible exact ih8 _ _ _ _ _ _ _ _)
   | (with_reducible exact ih9 _ _ _ _ _ _ _ _)
   | (with_reducible exact ih10 _ _ _ _ _ _ _ _ _ _ _ _ _)
   | (with_reducible exact impl_BitsForComb.mono _ _ _ _)
   | (with_reducible exact impl_ExactComb.mono _ _ _ _)
   | (with_reducible exact impl_ExactRise.mono _ _ _ _)
   | (with_reducible exact impl_LeastBits.mono _ _ _ _)
   | (with_reducible exact impl_WrappedComb.mono _ _ _ _ _)
   | (with_reducible exact impl_WrappedRise.mono _ _ _ _ _)
   | (with_reducible exact laws_iSame.mono _ _ _)
   | (with_reducible exact spec_DrawLeastBits.mono _ _)
   | (with_reducible exact spec_DrawWrappedComb.mono _ _)
   | (with_reducible exact spec_DrawWrappedRise.mono _ _)
   | (with_reducible exact spec_ExactComb.mono _ _ _ _)
   | (with_reducible exact spec_ExactRise.mono _ _ _ _)
   | (with_reducible exact spec_LeastBits.mono _ _ _ _)
   | (with_reducible exact spec_WrappedComb.mono _ _ _ _ _)
   | (with_reducible exact spec_WrappedRise.mono _ _ _ _ _)
   | (with_reducible exact LeO.refl _)
   | (with_reducible exact LeO.none _)
   | (with_reducible refine LeO.ite ?_ ?_)
   | (with_reducible refine LeO.bind ?_ (fun _ => ?_))
   | exact ih0 _ _ _ _ _ _ _ _ _ _
   | exact ih1 _ _ _ _ _ _ _ _
   | exact ih2 _
   | exact ih3 _ _ _ _ _ _ _ _ _
   | exact ih4 _ _ _ _ _ _ _
   | exact ih5 _ _ _ _ _
   | exact ih6 _ _ _ _ _ _
   | exact ih7 _ _ _ _ _ _ _ _ _ _
   | exact ih8 _ _ _ _ _ _ _ _
   | exact ih9 _ _ _ _ _ _ _ _
   | exact ih10 _ _ _ _ _ _ _ _ _ _ _ _ _
   | exact impl_BitsForComb.mono _ _ _ _
   | exact impl_ExactComb.mono _ _ _ _
   | exact impl_ExactRise.mono _ _ _ _
   | exact impl_LeastBits.mono _ _ _ _
   | exact impl_WrappedComb.mono _ _ _ _ _
   | exact impl_WrappedRise.mono _ _ _ _ _
   | exact laws_iSame.mono _ _ _
   | exact spec_DrawLeastBits.mono _ _
   | exact spec_DrawWrappedComb.mono _ _
   | exact spec_DrawWrappedRise.mono _ _
   | exact spec_ExactComb.mono _ _ _ _
   | exact spec_ExactRise.mono _ _ _ _
   | exact spec_LeastBits.mono _ _ _ _
   | exact spec_WrappedComb.mono _ _ _ _ _
   | exact spec_WrappedRise.mono _ _ _ _ _
   | exact LeO.none _
   | refine LeO.ite ?_ ?_
   | refine LeO.bind ?_ (fun _ => ?_)
  ·intro y0 y1 y2 y3 y4 y5 y6 y7
   unfold laws_FnCombsWrap.l1
   repeat' first
   | (with_reducible exact ih0 _ _ _ _ _ _ _ _ _ _)
   | (with_reducible exact ih1 _ _ _ _ _ _ _ _)
   | (with_reducible exact ih2 _)
   | (with_reducible exact ih3 _ _ _ _ _ _ _ _ _)
   | (with_reducible exact ih4 _ _ _ _ _ _ _)
   | (with_reducible exact ih5 _ _ _ _ _)
   | (with_reducible exact ih6 _ _ _ _ _ _)
   | (with_reducible exact ih7 _ _ _ _ _ _ _ _ _ _)
   | (with_reducible exact ih8 _ _ _ _ _ _ _ _)
   | (with_reducible exact ih9 _ _ _ _ _ _ _ _)
   | (with_reducible exact ih10 _ _ _ _ _ _ _ _ _ _ _ _ _)
   | (with_reducible exact impl_BitsForComb.mono _ _ _ _)
   | (with_reducible exact impl_ExactComb.mono _ _ _ _)
   | (with_reducible exact impl_ExactRise.mono _ _ _ _)
   | (with_reducible exact impl_LeastBits.mono _ _ _ _)
   | (with_reducible exact impl_WrappedComb.mono _ _ _ _ _)
   | (with_reducible exact impl_WrappedRise.mono _ _ _ _ _)
   | (with_reducible exact laws_iSame.mono _ _ _)
   | (with_reducible exact spec_DrawLeastBits.mono _ _)
   | (with_reducible exact spec_DrawWrappedComb.mono _ _)
   | (with_reducible exact spec_DrawWrappedRise.mono _ _)
   | (with_reducible exact spec_ExactComb.mono _ _ _ _)
   | (with_reducible exact spec_ExactRise.mono _ _ _ _)
   | (with_reducible exact spec_LeastBits.mono _ _ _ _)
   | (with_reducible exact spec_WrappedComb.mono _ _ _ _ _)
   | (with_reducible exact spec_WrappedRise.mono _ _ _ _ _)
   | (with_reducible exact LeO.refl _)
   | (with_reducible exact LeO.none _)
   | (with_reducible refine LeO.ite ?_ ?_)
   | (with_reducible refine LeO.bind ?_ (fun _ => ?_))
   | exact ih0 _ _ _ _ _ _ _ _ _ _
   | exact ih1 _ _ _ _ _ _ _ _
   | exact ih2 _
   | exact ih3 _ _ _ _ _ _ _ _ _
   | exact ih4 _ _ _ _ _ _ _
   | exact ih5 _ _ _ _ _
   | exact ih6 _ _ _ _ _ _
   | exact ih7 _ _ _ _ _ _ _ _ _ _
   | exact ih8 _ _ _ _ _ _ _ _
   | exact ih9 _ _ _ _ _ _ _ _
   | exact ih10 _ _ _ _ _ _ _ _ _ _ _ _ _
   | exact impl_BitsForComb.mono _ _ _ _
   | exact impl_ExactComb.mono _ _ _ _
   | exact impl_ExactRise.mono _ _ _ _
   | exact impl_LeastBits.mono _ _ _ _
   | exact impl_WrappedComb.mono _ _ _ _ _
   | exact impl_WrappedRise.mono _ _ _ _ _
   | exact laws_iSame.mono _ _ _
   | exact spec_DrawLeastBits.mono _ _
   | exact spec_DrawWrappedComb.mono _ _
   | exact spec_DrawWrappedRise.mono _ _
   | exact spec_ExactComb.mono _ _ _ _
   | exact spec_ExactRise.mono _ _ _ _
   | exact spec_LeastBits.mono _ _ _ _
   | exact spec_WrappedComb.mono _ _ _ _ _
   | exact spec_WrappedRise.mono _ _ _ _ _
   | exact LeO.none _
   | refine LeO.ite ?_ ?_
   | refine LeO.bind ?_ (fun _ => ?_)
  ·intro y0 y1 y2 y3 y4 y5 y6 y7 y8 y9 y10 y11 y12
   unfold laws_FnCombsWrap.l2
   repeat' first
   | (with_reducible exact ih0 _ _ _ _ _ _ _ _ _ _)
   | (with_reducible exact ih1 _ _ _ _ _ _ _ _)
   | (with_reducible exact ih2 _)
   | (with_reducible exact ih3 _ _ _ _ _ _ _ _ _)
   | (with_reducible exact ih4 _ _ _ _ _ _ _)
   | (with_reducible exact ih5 _ _ _ _ _)
   | (with_reducible exact ih6 _ _ _ _ _ _)
   | (with_reducible exact ih7 _ _ _ _ _ _ _ _ _ _)
   | (with_reducible exact ih8 _ _ _ _ _ _ _ _)
   | (with_reducible exact ih9 _ _ _ _ _ _ _ _)
   | (with_reducible exact ih10 _ _ _ _ _ _ _ _ _ _ _ _ _)
   | (with_reducible exact impl_BitsForComb.mono _ _ _ _)
   | (with_reducible exact impl_ExactComb.mono _ _ _ _)
   | (with_reducible exact impl_ExactRise.mono _ _ _ _)
   | (with_reducible exact impl_LeastBits.mono _ _ _ _)
   | (with_reducible exact impl_WrappedComb.mono _ _ _ _ _)
   | (with_reducible exact impl_WrappedRise.mono _ _ _ _ _)
   | (with_reducible exact laws_iSame.mono _ _ _)
   | (with_reducible exact spec_DrawLeastBits.mono _ _)
   | (with_reducible exact spec_DrawWrappedComb.mono _ _)
   | (with_reducible exact spec_DrawWrappedRise.mono _ _)
   | (with_reducible exact spec_ExactComb.mono _ _ _ _)
   | (with_reducible exact spec_ExactRise.mono _ _ _ _)
   | (with_reducible exact spec_LeastBits.mono _ _ _ _)
   | (with_reducible exact spec_WrappedComb.mono _ _ _ _ _)
   | (with_reducible exact spec_WrappedRise.mono _ _ _ _ _)
   | (with_reducible exact LeO.refl _)
   | (with_reducible exact LeO.none _)
   | (with_reducible refine LeO.ite ?_ ?_)
   | (with_reducible refine LeO.bind ?_ (fun _ => ?_))
   | exact ih0 _ _ _ _ _ _ _ _ _ _
   | exact ih1 _ _ _ _ _ _ _ _
   | exact ih2 _
   | exact ih3 _ _ _ _ _ _ _ _ _
   | exact ih4 _ _ _ _ _ _ _
   | exact ih5 _ _ _ _ _
   | exact ih6 _ _ _ _ _ _
   | exact ih7 _ _ _ _ _ _ _ _ _ _
   | exact ih8 _ _ _ _ _ _ _ _
   | exact ih9 _ _ _ _ _ _ _ _
   | exact ih10 _ _ _ _ _ _ _ _ _ _ _ _ _
   | exact impl_BitsForComb.mono _ _ _ _
   | exact impl_ExactComb.mono _ _ _ _
   | exact impl_ExactRise.mono _ _ _ _
   | exact impl_LeastBits.mono _ _ _ _
   | exact impl_WrappedComb.mono _ _ _ _ _
   | exact impl_WrappedRise.mono _ _ _ _ _
   | exact laws_iSame.mono _ _ _
   | exact spec_DrawLeastBits.mono _ _
   | exact spec_DrawWrappedComb.mono _ _
   | exact spec_DrawWrappedRise.mono _ _
   | exact spec_ExactComb.mono _ _ _ _
   | exact spec_ExactRise.mono _ _ _ _
   | exact spec_LeastBits.mono _ _ _ _
   | exact spec_WrappedComb.mono _ _ _ _ _
   | exact spec_WrappedRise.mono _ _ _ _ _
   | exact LeO.none _
   | refine LeO.ite ?_ ?_
   | refine LeO.bind ?_ (fun _ => ?_)
theorem laws_FnCombsWrap.mono : ∀ a0 a1 k, LeO (laws_FnCombsWrap.f k a0 a1) (laws_FnCombsWrap.f (k + 1) a0 a1) := by
 intro a0 a1 k
 obtain ⟨ih0, ih1, ih2, ih3, ih4, ih5, ih6, ih7, ih8, ih9, ih10⟩ := laws_FnCombsWrap.mono_l k
 unfold laws_FnCombsWrap.f
 repeat' first
   | (with_reducible exact ih0 _ _ _ _ _ _ _ _ _ _)
   | (with_reducible exact ih1 _ _ _ _ _ _ _ _)
   | (with_reducible exact ih2 _)
   | (with_reducible exact ih3 _ _ _ _ _ _ _ _ _)
   | (with_reducible exact ih4 _ _ _ _ _ _ _)
   | (with_reducible exact ih5 _ _ _ _ _)
   | (with_reducible exact ih6 _ _ _ _ _ _)
   | (with_reducible exact ih7 _ _ _ _ _ _ _ _ _ _)
   | (with_reducible exact ih8 _ _ _ _ _ _ _ _)
   | (with_reducible exact ih9 _ _ _ _ _ _ _ _)
   | (with_reducible exact ih10 _ _ _ _ _ _ _ _ _ _ _ _ _)
   | (with_reducible exact impl_BitsForComb.mono _ _ _ _)
   | (with_reducible exact impl_ExactComb.mono _ _ _ _)
   | (with_reducible exact impl_ExactRise.mono _ _ _ _)
   | (with_reducible exact impl_LeastBits.mono _ _ _ _)
   | (with_reducible exact impl_WrappedComb.mono _ _ _ _ _)
   | (with_reducible exact impl_WrappedRise.mono _ _ _ _ _)
   | (with_reducible exact laws_iSame.mono _ _ _)
   | (with_reducible exact spec_DrawLeastBits.mono _ _)
   | (with_reducible exact spec_DrawWrappedComb.mono _ _)
   | (with_reducible exact spec_DrawWrappedRise.mono _ _)
   | (with_reducible exact spec_ExactComb.mono _ _ _ _)
   | (with_reducible exact spec_ExactRise.mono _ _ _ _)
   | (with_reducible exact spec_LeastBits.mono _ _ _ _)
   | (with_reducible exact spec_WrappedComb.mono _ _ _ _ _)
   | (with_reducible exact spec_WrappedRise.mono _ _ _ _ _)
   | (with_reducible exact LeO.refl _)
   | (with_reducible exact LeO.none _)
   | (with_reducible refine LeO.ite ?_ ?_)
   | (with_reducible refine LeO.bind ?_ (fun _ => ?_))
   | exact ih0 _ _ _ _ _ _ _ _ _ _
   | exact ih1 _ _ _ _ _ _ _ _
   | exact ih2 _
   | exact ih3 _ _ _ _ _ _ _ _ _
   | exact ih4 _ _ _ _ _ _ _
   | exact ih5 _ _ _ _ _
   | exact ih6 _ _ _ _ _ _
   | exact ih7 _ _ _ _ _ _ _ _ _ _
   | exact ih8 _ _ _ _ _ _ _ _
   | exact ih9 _ _ _ _ _ _ _ _
   | exact ih10 _ _ _ _ _ _ _ _ _ _ _ _ _
   | exact impl_BitsForComb.mono _ _ _ _
   | exact impl_ExactComb.mono _ _ _ _
   | exact impl_ExactRise.mono _ _ _ _
   | exact impl_LeastBits.mono _ _ _ _
   | exact impl_WrappedComb.mono _ _ _ _ _
   | exact impl_WrappedRise.mono _ _ _ _ _
   | exact laws_iSame.mono _ _ _
   | exact spec_DrawLeastBits.mono _ _
   | exact spec_DrawWrappedComb.mono _ _
   | exact spec_DrawWrappedRise.mono _ _
   | exact spec_ExactComb.mono _ _ _ _
   | exact spec_ExactRise.mono _ _ _ _
   | exact spec_LeastBits.mono _ _ _ _
   | exact spec_WrappedComb.mono _ _ _ _ _
   | exact spec_WrappedRise.mono _ _ _ _ _
   | exact LeO.none _
   | refine LeO.ite ?_ ?_
   | refine LeO.bind ?_ (fun _ => ?_)
set_option maxHeartbeats 200000000 in
set_option maxRecDepth 100000 in
theorem laws_FnCombsWrap.calls (k : Nat) (A0 : Option Addr) (c0 : Nat) (l0 : List Int) (A1 : Option Addr) (c1 : Nat) (l1 : List Int) (r : Bool) (w : World) (hr0 : Kd.C (Kd.int .u8) w A0 l0.length l0) (hc0 : l0.length ≤ c0) (hr1 : Kd.C (Kd.int .u8) w A1 l1.length l1) (hc1 : l1.length ≤ c1) (h : laws_FnCombsWrap.f k l0 l1 = some r) (hr_ : r = true) :
  Calls Try.prog 9 #[.slice A0 l0.length c0, .slice A1 l1.length c1] w fun e w' => e = .returned (.bool r) ∧ Below w.heap.size w w' := by
 have HRT := Aside0.mk hr_
 clear hr_
 have HR0 := Aside0.mk hr0
 have HC0 := Aside0.mk hc0
 clear hr0 hc0
 have HR1 := Aside0.mk hr1
 have HC1 := Aside0.mk hc1
 clear hr1 hc1
 have HB := Aside0.mk (Below.refl w.heap.size w)
 have H : ((laws_big.f l0 l1).bind fun t554 => (if t554 = true then (some true) else ((spec_DrawWrappedComb.f k l0).bind fun bt555 => ((impl_WrappedComb.f k bt555.1 bt555.2.1 bt555.2.2.1 bt555.2.2.2).bind fun bt561 => ((spec_WrappedComb.f k bt555.1 bt555.2.1 bt555.2.2.1 bt555.2.2.2).bind fun bt565 => ((impl_ExactComb.f k bt555.1 bt555.2.2.1 bt555.2.2.2).bind fun bt569 => ((spec_ExactComb.f k bt555.1 bt555.2.2.1 bt555.2.2.2).bind fun bt573 => (if (bt561.2 != bt565.2) = true then (laws_FnCombsWrap.j0 k l1 bt555.1 bt555.2.1 bt555.2.2.1 bt555.2.2.2 bt561.1 bt561.2 bt569.1 bt569.2 true) else ((laws_iSame.f k bt561.1 bt565.1).bind fun t577 => (if t577 = true then (if (bt569.2 != bt573.2) = true then (laws_FnCombsWrap.j0 k l1 bt555.1 bt555.2.1 bt555.2.2.1 bt555.2.2.2 bt561.1 bt561.2 bt569.1 bt569.2 true) else ((laws_iSame.f k bt569.1 bt573.1).bind fun t578 => (laws_FnCombsWrap.j0 k l1 bt555.1 bt555.2.1 bt555.2.2.1 bt555.2.2.2 bt561.1 bt561.2 bt569.1 bt569.2 (!t578)))) else (laws_FnCombsWrap.j0 k l1 bt555.1 bt555.2.1 bt555.2.2.1 bt555.2.2.2 bt561.1 bt561.2 bt569.1 bt569.2 true))))))))))) = some r := h
 clear h
 replace H := Option.bind_eq_some_iff.mp H
 obtain ⟨t554, A30, H⟩ := H
 (try dsimp only at H)
 have A3 := Aside0.mk A30
 clear A30
 by_cases c4 : t554 = true
 ·as_aux_lemma =>
   subst c4
   have H1 := H
   rw [if_pos rfl] at H1
   clear H
   have H := H1
   clear H1
   obtain rfl := Option.some.inj H
   go_enter Try.func9, Try.ntmps9
   go_wp2_with (first | (go_at_call 13; (with_reducible refine (laws_big.calls _ _ l0 _ _ l1 true _ ?side1 ?side2 ?side3 ?side4 A3.out).mono ?_); (case side1 => exact xC HR0.out); (case side2 => exact HC0.out); (case side3 => exact xC HR1.out); (case side4 => exact HC1.out); rintro e w' ⟨rfl, ⟨nd, rfl⟩⟩; (try exact xD)))
   repeat (go_quiet (first | (go_at_call 13; (with_reducible refine (laws_big.calls _ _ l0 _ _ l1 true _ ?side1 ?side2 ?side3 ?side4 A3.out).mono ?_); (case side1 => exact xC HR0.out); (case side2 => exact HC0.out); (case side3 => exact xC HR1.out); (case side4 => exact HC1.out); rintro e w' ⟨rfl, ⟨nd, rfl⟩⟩; (try exact xD))); try go_wp2_with (first | (go_at_call 13; (with_reducible refine (laws_big.calls _ _ l0 _ _ l1 true _ ?side1 ?side2 ?side3 ?side4 A3.out).mono ?_); (case side1 => exact xC HR0.out); (case side2 => exact HC0.out); (case side3 => exact xC HR1.out); (case side4 => exact HC1.out); rintro e w' ⟨rfl, ⟨nd, rfl⟩⟩; (try exact xD))))
   go_ret
   exact ⟨by first | rfl | (simp [errW_none, errW_some] <;> rfl) | (simp [*, errW_none, errW_some] <;> rfl), xB HB.out⟩
 replace c4 := Bool.eq_false_iff.mpr c4
 subst c4
 have H1 := H
 rw [if_neg (show ¬ (false = true) by decide)] at H1
 clear H
 have H := H1
 clear H1
 replace H := Option.bind_eq_some_iff.mp H
 obtain ⟨⟨t555, t556, t557, t558⟩, A50, H⟩ := H
 (try dsimp only at H)
 have A5 := Aside0.mk A50
 clear A50
 replace H := Option.bind_eq_some_iff.mp H
 obtain ⟨⟨t561, t562⟩, A60, H⟩ := H
 (try dsimp only at H)
 have A6 := Aside0.mk A60
 clear A60
 replace H := Option.bind_eq_some_iff.mp H
 obtain ⟨⟨t565, t568⟩, A70, H⟩ := H
 (try dsimp only at H)
 have A7 := Aside0.mk A70
 clear A70
 replace H := Option.bind_eq_some_iff.mp H
 obtain ⟨⟨t569, t570⟩, A80, H⟩ := H
 (try dsimp only at H)
 have A8 := Aside0.mk A80
 clear A80
 replace H := Option.bind_eq_some_iff.mp H
 obtain ⟨⟨t573, t574⟩, A90, H⟩ := H
 (try dsimp only at H)
 have A9 := Aside0.mk A90
 clear A90
 have HC10 := Aside0.mk H
 clear H
 go_enter Try.func9, Try.ntmps9
 go_upto_region 8 with (first | (go_at_call 13; (with_reducible refine (laws_big.calls _ _ l0 _ _ l1 false _ ?side1 ?side2 ?side3 ?side4 A3.out).mono ?_); (case side1 => exact xC HR0.out); (case side2 => exact HC0.out); (case side3 => exact xC HR1.out); (case side4 => exact HC1.out); rintro e w' ⟨rfl, ⟨nd, rfl⟩⟩; (try exact xD)) | (go_at_call 123; (with_reducible refine (spec_DrawWrappedComb.calls k _ _ l0 t555 t556 t557 t558 _ ?side1 ?side2 A5.out).mono ?_); (case side1 => exact xC HR0.out); (case side2 => exact HC0.out); rintro e w11 ⟨v559, rfl, ho0, hb⟩; have n0_ := Aside0.mk (Kd.R_lower ho0 (below_size (xB HB.out))); have n1_ := Aside0.mk (below_step (xB HB.out) hb); clear HB; have HO560 := n0_; have HB := n1_; clear n0_ n1_; (try clear hb); (try clear hb2); (try clear hk); (try clear hi); (try clear ho0); obtain ⟨Ao12, co12, eo12⟩ := Kd.R_slice HO560.out; subst eo12) | (go_at_call 124; (with_reducible refine (impl_WrappedComb.calls k _ _ t555 t556 t557 t558 t561 t562 _ ?side1 ?side2 A6.out).mono ?_); (case side1 => exact xC ((Kd.R_reads' HO560.out).2.2)); (case side2 => exact (Kd.R_reads' HO560.out).2.1); rintro e w13 ⟨v563, rfl, ho0, hb⟩; have n0_ := Aside0.mk (Kd.R_elder' (xR HO560.out) (Kd.R_base ho0) hb); have n1_ := Aside0.mk (Kd.R_lower (Kd.R_new' ho0 (Kd.R_lt (xR HO560.out))) (below_size (xB HB.out))); have n2_ := Aside0.mk (below_step (xB HB.out) hb); clear HO560; clear HB; have HO560 := n0_; have HO564 := n1_; have HB := n2_; clear n0_ n1_ n2_; (try clear hb); (try clear hb2); (try clear hk); (try clear hi); (try clear ho0)) | (go_at_call 125; (with_reducible refine (spec_WrappedComb.calls k (fun k_ => some k_ = (.slice Ao12 t555.length co12 : Value).ownBlock) _ _ t555 t556 t557 t558 t565 t568 _ ?side1 A7.out).mono ?_); (case side1 => exact Kd.R_V (Kd.R_tight rfl (HO560.out))); rintro e w14 ⟨v566, rfl, ho0, hb⟩; have n0_ := Aside0.mk (Kd.R_below (xR HO560.out) hb); have n1_ := Aside0.mk (Kd.R_below (xR HO564.out) hb); have n2_ := Aside0.mk (Kd.V_lower (Kd.V_mono (ok' := fun k_ => some k_ ≠ (v563 : Value).ownBlock) ho0 (fun k_ hk_ => Or.elim hk_ (fun hs_ => ((HO560.out).1 k_ hs_.symm).2) (fun hn_ => (Kd.fresh' (Kd.R_lt (xR HO564.out)) k_ hn_)))) (below_size (xB HB.out))); have n3_ := Aside0.mk (below_step (xB HB.out) hb); clear HO560; clear HO564; clear HB; have HO560 := n0_; have HO564 := n1_; have HO567 := n2_; have HB := n3_; clear n0_ n1_ n2_ n3_; (try clear hb); (try clear hb2); (try clear hk); (try clear hi); (try clear ho0)) | (go_at_call 126; (with_reducible refine (impl_ExactComb.calls k _ _ t555 t557 t558 t569 t570 _ ?side1 ?side2 A8.out).mono ?_); (case side1 => exact xC ((Kd.R_reads' HO560.out).2.2)); (case side2 => exact (Kd.R_reads' HO560.out).2.1); rintro e w15 ⟨v571, rfl, ho0, hb⟩; have n0_ := Aside0.mk (Kd.R_elder' (xR HO560.out) (Kd.R_base ho0) hb); have n1_ := Aside0.mk (Kd.R_elder' (xR HO564.out) (Kd.R_base ho0) hb); have n2_ := Aside0.mk (Kd.V_elder' (by (with_reducible repeat (first | apply Kd.V_alloc | apply Kd.V_drewN | apply Kd.V_drew)); exact HO567.out) (Kd.R_base ho0) hb); have n3_ := Aside0.mk (Kd.R_lower (Kd.R_new' (Kd.R_new' ho0 (Kd.R_lt (xR HO560.out))) (Kd.R_lt (xR HO564.out))) (below_size (xB HB.out))); have n4_ := Aside0.mk (below_step (xB HB.out) hb); clear HO560; clear HO564; clear HO567; clear HB; have HO560 := n0_; have HO564 := n1_; have HO567 := n2_; have HO572 := n3_; have HB := n4_; clear n0_ n1_ n2_ n3_ n4_; (try clear hb); (try clear hb2); (try clear hk); (try clear hi); (try clear ho0)) | (go_at_call 127; (with_reducible refine (spec_ExactComb.calls k _ _ t555 t557 t558 t573 t574 _ ?side1 ?side2 A9.out).mono ?_); (case side1 => exact xC ((Kd.R_reads' HO560.out).2.2)); (case side2 => exact (Kd.R_reads' HO560.out).2.1); rintro e w16 ⟨v575, rfl, ho0, hb⟩; have n0_ := Aside0.mk (Kd.R_elder' (xR HO560.out) (Kd.R_base ho0) hb); have n1_ := Aside0.mk (Kd.R_elder' (xR HO564.out) (Kd.R_base ho0) hb); have n2_ := Aside0.mk (Kd.V_elder' (by (with_reducible repeat (first | apply Kd.V_alloc | apply Kd.V_drewN | apply Kd.V_drew)); exact HO567.out) (Kd.R_base ho0) hb); have n3_ := Aside0.mk (Kd.R_elder' (xR HO572.out) (Kd.R_base ho0) hb); have n4_ := Aside0.mk (Kd.R_lower (Kd.R_new' (Kd.R_new' (Kd.R_new' ho0 (Kd.R_lt (xR HO560.out))) (Kd.R_lt (xR HO564.out))) (Kd.R_lt (xR HO572.out))) (below_size (xB HB.out))); have n5_ := Aside0.mk (below_step (xB HB.out) hb); clear HO560; clear HO564; clear HO567; clear HO572; clear HB; have HO560 := n0_; have HO564 := n1_; have HO567 := n2_; have HO572 := n3_; have HO576 := n4_; have HB := n5_; clear n0_ n1_ n2_ n3_ n4_ n5_; (try clear hb); (try clear hb2); (try clear hk); (try clear hi); (try clear ho0)))
 repeat (go_quiet (first | (go_at_call 13; (with_reducible refine (laws_big.calls _ _ l0 _ _ l1 false _ ?side1 ?side2 ?side3 ?side4 A3.out).mono ?_); (case side1 => exact xC HR0.out); (case side2 => exact HC0.out); (case side3 => exact xC HR1.out); (case side4 => exact HC1.out); rintro e w' ⟨rfl, ⟨nd, rfl⟩⟩; (try exact xD)) | (go_at_call 123; (with_reducible refine (spec_DrawWrappedComb.calls k _ _ l0 t555 t556 t557 t558 _ ?side1 ?side2 A5.out).mono ?_); (case side1 => exact xC HR0.out); (case side2 => exact HC0.out); rintro e w11 ⟨v559, rfl, ho0, hb⟩; have n0_ := Aside0.mk (Kd.R_lower ho0 (below_size (xB HB.out))); have n1_ := Aside0.mk (below_step (xB HB.out) hb); clear HB; have HO560 := n0_; have HB := n1_; clear n0_ n1_; (try clear hb); (try clear hb2); (try clear hk); (try clear hi); (try clear ho0); obtain ⟨Ao12, co12, eo12⟩ := Kd.R_slice HO560.out; subst eo12) | (go_at_call 124; (with_reducible refine (impl_WrappedComb.calls k _ _ t555 t556 t557 t558 t561 t562 _ ?side1 ?side2 A6.out).mono ?_); (case side1 => exact xC ((Kd.R_reads' HO560.out).2.2)); (case side2 => exact (Kd.R_reads' HO560.out).2.1); rintro e w13 ⟨v563, rfl, ho0, hb⟩; have n0_ := Aside0.mk (Kd.R_elder' (xR HO560.out) (Kd.R_base ho0) hb); have n1_ := Aside0.mk (Kd.R_lower (Kd.R_new' ho0 (Kd.R_lt (xR HO560.out))) (below_size (xB HB.out))); have n2_ := Aside0.mk (below_step (xB HB.out) hb); clear HO560; clear HB; have HO560 := n0_; have HO564 := n1_; have HB := n2_; clear n0_ n1_ n2_; (try clear hb); (try clear hb2); (try clear hk); (try clear hi); (try clear ho0)) | (go_at_call 125; (with_reducible refine (spec_WrappedComb.calls k (fun k_ => some k_ = (.slice Ao12 t555.length co12 : Value).ownBlock) _ _ t555 t556 t557 t558 t565 t568 _ ?side1 A7.out).mono ?_); (case side1 => exact Kd.R_V (Kd.R_tight rfl (HO560.out))); rintro e w14 ⟨v566, rfl, ho0, hb⟩; have n0_ := Aside0.mk (Kd.R_below (xR HO560.out) hb); have n1_ := Aside0.mk (Kd.R_below (xR HO564.out) hb); have n2_ := Aside0.mk (Kd.V_lower (Kd.V_mono (ok' := fun k_ => some k_ ≠ (v563 : Value).ownBlock) ho0 (fun k_ hk_ => Or.elim hk_ (fun hs_ => ((HO560.out).1 k_ hs_.symm).2) (fun hn_ => (Kd.fresh' (Kd.R_lt (xR HO564.out)) k_ hn_)))) (below_size (xB HB.out))); have n3_ := Aside0.mk (below_step (xB HB.out) hb); clear HO560; clear HO564; clear HB; have HO560 := n0_; have HO564 := n1_; have HO567 := n2_; have HB := n3_; clear n0_ n1_ n2_ n3_; (try clear hb); (try clear hb2); (try clear hk); (try clear hi); (try clear ho0)) | (go_at_call 126; (with_reducible refine (impl_ExactComb.calls k _ _ t555 t557 t558 t569 t570 _ ?side1 ?side2 A8.out).mono ?_); (case side1 => exact xC ((Kd.R_reads' HO560.out).2.2)); (case side2 => exact (Kd.R_reads' HO560.out).2.1); rintro e w15 ⟨v571, rfl, ho0, hb⟩; have n0_ := Aside0.mk (Kd.R_elder' (xR HO560.out) (Kd.R_base ho0) hb); have n1_ := Aside0.mk (Kd.R_elder' (xR HO564.out) (Kd.R_base ho0) hb); have n2_ := Aside0.mk (Kd.V_elder' (by (with_reducible repeat (first | apply Kd.V_alloc | apply Kd.V_drewN | apply Kd.V_drew)); exact HO567.out) (Kd.R_base ho0) hb); have n3_ := Aside0.mk (Kd.R_lower (Kd.R_new' (Kd.R_new' ho0 (Kd.R_lt (xR HO560.out))) (Kd.R_lt (xR HO564.out))) (below_size (xB HB.out))); have n4_ := Aside0.mk (below_step (xB HB.out) hb); clear HO560; clear HO564; clear HO567; clear HB; have HO560 := n0_; have HO564 := n1_; have HO567 := n2_; have HO572 := n3_; have HB := n4_; clear n0_ n1_ n2_ n3_ n4_; (try clear hb); (try clear hb2); (try clear hk); (try clear hi); (try clear ho0)) | (go_at_call 127; (with_reducible refine (spec_ExactComb.calls k _ _ t555 t557 t558 t573 t574 _ ?side1 ?side2 A9.out).mono ?_); (case side1 => exact xC ((Kd.R_reads' HO560.out).2.2)); (case side2 => exact (Kd.R_reads' HO560.out).2.1); rintro e w16 ⟨v575, rfl, ho0, hb⟩; have n0_ := Aside0.mk (Kd.R_elder' (xR HO560.out) (Kd.R_base ho0) hb); have n1_ := Aside0.mk (Kd.R_elder' (xR HO564.out) (Kd.R_base ho0) hb); have n2_ := Aside0.mk (Kd.V_elder' (by (with_reducible repeat (first | apply Kd.V_alloc | apply Kd.V_drewN | apply Kd.V_drew)); exact HO567.out) (Kd.R_base ho0) hb); have n3_ := Aside0.mk (Kd.R_elder' (xR HO572.out) (Kd.R_base ho0) hb); have n4_ := Aside0.mk (Kd.R_lower (Kd.R_new' (Kd.R_new' (Kd.R_new' ho0 (Kd.R_lt (xR HO560.out))) (Kd.R_lt (xR HO564.out))) (Kd.R_lt (xR HO572.out))) (below_size (xB HB.out))); have n5_ := Aside0.mk (below_step (xB HB.out) hb); clear HO560; clear HO564; clear HO567; clear HO572; clear HB; have HO560 := n0_; have HO564 := n1_; have HO567 := n2_; have HO572 := n3_; have HO576 := n4_; have HB := n5_; clear n0_ n1_ n2_ n3_ n4_ n5_; (try clear hb); (try clear hb2); (try clear hk); (try clear hi); (try clear ho0))); go_upto_region 8 with (first | (go_at_call 13; (with_reducible refine (laws_big.calls _ _ l0 _ _ l1 false _ ?side1 ?side2 ?side3 ?side4 A3.out).mono ?_); (case side1 => exact xC HR0.out); (case side2 => exact HC0.out); (case side3 => exact xC HR1.out); (case side4 => exact HC1.out); rintro e w' ⟨rfl, ⟨nd, rfl⟩⟩; (try exact xD)) | (go_at_call 123; (with_reducible refine (spec_DrawWrappedComb.calls k _ _ l0 t555 t556 t557 t558 _ ?side1 ?side2 A5.out).mono ?_); (case side1 => exact xC HR0.out); (case side2 => exact HC0.out); rintro e w11 ⟨v559, rfl, ho0, hb⟩; have n0_ := Aside0.mk (Kd.R_lower ho0 (below_size (xB HB.out))); have n1_ := Aside0.mk (below_step (xB HB.out) hb); clear HB; have HO560 := n0_; have HB := n1_; clear n0_ n1_; (try clear hb); (try clear hb2); (try clear hk); (try clear hi); (try clear ho0); obtain ⟨Ao12, co12, eo12⟩ := Kd.R_slice HO560.out; subst eo12) | (go_at_call 124; (with_reducible refine (impl_WrappedComb.calls k _ _ t555 t556 t557 t558 t561 t562 _ ?side1 ?side2 A6.out).mono ?_); (case side1 => exact xC ((Kd.R_reads' HO560.out).2.2)); (case side2 => exact (Kd.R_reads' HO560.out).2.1); rintro e w13 ⟨v563, rfl, ho0, hb⟩; have n0_ := Aside0.mk (Kd.R_elder' (xR HO560.out) (Kd.R_base ho0) hb); have n1_ := Aside0.mk (Kd.R_lower (Kd.R_new' ho0 (Kd.R_lt (xR HO560.out))) (below_size (xB HB.out))); have n2_ := Aside0.mk (below_step (xB HB.out) hb); clear HO560; clear HB; have HO560 := n0_; have HO564 := n1_; have HB := n2_; clear n0_ n1_ n2_; (try clear hb); (try clear hb2); (try clear hk); (try clear hi); (try clear ho0)) | (go_at_call 125; (with_reducible refine (spec_WrappedComb.calls k (fun k_ => some k_ = (.slice Ao12 t555.length co12 : Value).ownBlock) _ _ t555 t556 t557 t558 t565 t568 _ ?side1 A7.out).mono ?_); (case side1 => exact Kd.R_V (Kd.R_tight rfl (HO560.out))); rintro e w14 ⟨v566, rfl, ho0, hb⟩; have n0_ := Aside0.mk (Kd.R_below (xR HO560.out) hb); have n1_ := Aside0.mk (Kd.R_below (xR HO564.out) hb); have n2_ := Aside0.mk (Kd.V_lower (Kd.V_mono (ok' := fun k_ => some k_ ≠ (v563 : Value).ownBlock) ho0 (fun k_ hk_ => Or.elim hk_ (fun hs_ => ((HO560.out).1 k_ hs_.symm).2) (fun hn_ => (Kd.fresh' (Kd.R_lt (xR HO564.out)) k_ hn_)))) (below_size (xB HB.out))); have n3_ := Aside0.mk (below_step (xB HB.out) hb); clear HO560; clear HO564; clear HB; have HO560 := n0_; have HO564 := n1_; have HO567 := n2_; have HB := n3_; clear n0_ n1_ n2_ n3_; (try clear hb); (try clear hb2); (try clear hk); (try clear hi); (try clear ho0)) | (go_at_call 126; (with_reducible refine (impl_ExactComb.calls k _ _ t555 t557 t558 t569 t570 _ ?side1 ?side2 A8.out).mono ?_); (case side1 => exact xC ((Kd.R_reads' HO560.out).2.2)); (case side2 => exact (Kd.R_reads' HO560.out).2.1); rintro e w15 ⟨v571, rfl, ho0, hb⟩; have n0_ := Aside0.mk (Kd.R_elder' (xR HO560.out) (Kd.R_base ho0) hb); have n1_ := Aside0.mk (Kd.R_elder' (xR HO564.out) (Kd.R_base ho0) hb); have n2_ := Aside0.mk (Kd.V_elder' (by (with_reducible repeat (first | apply Kd.V_alloc | apply Kd.V_drewN | apply Kd.V_drew)); exact HO567.out) (Kd.R_base ho0) hb); have n3_ := Aside0.mk (Kd.R_lower (Kd.R_new' (Kd.R_new' ho0 (Kd.R_lt (xR HO560.out))) (Kd.R_lt (xR HO564.out))) (below_size (xB HB.out))); have n4_ := Aside0.mk (below_step (xB HB.out) hb); clear HO560; clear HO564; clear HO567; clear HB; have HO560 := n0_; have HO564 := n1_; have HO567 := n2_; have HO572 := n3_; have HB := n4_; clear n0_ n1_ n2_ n3_ n4_; (try clear hb); (try clear hb2); (try clear hk); (try clear hi); (try clear ho0)) | (go_at_call 127; (with_reducible refine (spec_ExactComb.calls k _ _ t555 t557 t558 t573 t574 _ ?side1 ?side2 A9.out).mono ?_); (case side1 => exact xC ((Kd.R_reads' HO560.out).2.2)); (case side2 => exact (Kd.R_reads' HO560.out).2.1); rintro e w16 ⟨v575, rfl, ho0, hb⟩; have n0_ := Aside0.mk (Kd.R_elder' (xR HO560.out) (Kd.R_base ho0) hb); have n1_ := Aside0.mk (Kd.R_elder' (xR HO564.out) (Kd.R_base ho0) hb); have n2_ := Aside0.mk (Kd.V_elder' (by (with_reducible repeat (first | apply Kd.V_alloc | apply Kd.V_drewN | apply Kd.V_drew)); exact HO567.out) (Kd.R_base ho0) hb); have n3_ := Aside0.mk (Kd.R_elder' (xR HO572.out) (Kd.R_base ho0) hb); have n4_ := Aside0.mk (Kd.R_lower (Kd.R_new' (Kd.R_new' (Kd.R_new' ho0 (Kd.R_lt (xR HO560.out))) (Kd.R_lt (xR HO564.out))) (Kd.R_lt (xR HO572.out))) (below_size (xB HB.out))); have n5_ := Aside0.mk (below_step (xB HB.out) hb); clear HO560; clear HO564; clear HO567; clear HO572; clear HB; have HO560 := n0_; have HO564 := n1_; have HO567 := n2_; have HO572 := n3_; have HO576 := n4_; have HB := n5_; clear n0_ n1_ n2_ n3_ n4_ n5_; (try clear hb); (try clear hb2); (try clear hk); (try clear hi); (try clear ho0))))
 (try simp only [Act.put, List.setIfInBounds_toArray, List.set_cons_zero, List.set_cons_succ])
 go_cut [108] (fun v108 wc => ∃ (kq : Nat) (x108_9 : Bool), v108 = .bool x108_9 ∧ Aside0 (laws_FnCombsWrap.j0 kq l1 t555 t556 t557 t558 t561 t562 t569 t570 x108_9 = some r) ∧ Aside0 (kq ≤ k) ∧ Aside0 (Kd.R (Kd.int .i64) 3 wc w.heap.size (fun k_ => some k_ ≠ (v563 : Value).ownBlock ∧ some k_ ≠ (v571 : Value).ownBlock) (.slice Ao12 t555.length co12) t555) ∧ Aside0 (Kd.R (Kd.int .i64) 3 wc w.heap.size (fun k_ => some k_ ≠ ((.slice Ao12 t555.length co12) : Value).ownBlock ∧ some k_ ≠ (v571 : Value).ownBlock) v563 t561) ∧ Aside0 (Kd.R (Kd.int .i64) 3 wc w.heap.size (fun k_ => some k_ ≠ ((.slice Ao12 t555.length co12) : Value).ownBlock ∧ some k_ ≠ (v563 : Value).ownBlock) v571 t569) ∧ Aside0 (Below w.heap.size w wc))
 case first => as_aux_lemma =>
  have H := HC10.out
  clear HC10
  by_cases c17 : (t562 != t568) = true
  ·as_aux_lemma =>
    rw [if_pos c17] at H
    have c17b0 : (t562 != t568) = true := c17
    (try (have c17b1 : decide (t562 = t568) = false := by simpa using c17))
    (try (have c17b2 : (t562 == t568) = false := by simpa using c17))
    (try (have c17b3 : ¬ (t562 = t568) := by simpa using c17))
    clear c17
    (first | rw [c17b0] | (simp only [i64_w, i32_w]; rw [c17b0]) | skip)
    exact absurd H (by have hr_ := HRT.out; cases k <;> simp [laws_FnCombsWrap.j0, hr_])
  as_aux_lemma =>
   rw [if_neg c17] at H
   have c17b0 : (t562 != t568) = false := by simpa using c17
   (try (have c17b1 : decide (t562 = t568) = true := by simpa using c17))
   (try (have c17b2 : (t562 == t568) = true := by simpa using c17))
   clear c17
   (first | rw [c17b0] | (simp only [i64_w, i32_w]; rw [c17b0]) | skip)
   replace H := Option.bind_eq_some_iff.mp H
   obtain ⟨t577, A180, H⟩ := H
   (try dsimp only at H)
   have A18 := Aside0.mk A180
   clear A180
   by_cases c19 : t577 = true
   rotate_left
   ·replace c19 := Bool.eq_false_iff.mpr c19
    subst c19
    have H1 := H
    rw [if_neg (show ¬ (false = true) by decide)] at H1
    clear H
    have H := H1
    clear H1
    exact absurd H (by have hr_ := HRT.out; cases k <;> simp [laws_FnCombsWrap.j0, hr_])
   subst c19
   have H1 := H
   rw [if_pos rfl] at H1
   clear H
   have H := H1
   clear H1
   by_cases c20 : (t570 != t574) = true
   ·rw [if_pos c20] at H
    have c20b0 : (t570 != t574) = true := c20
    (try (have c20b1 : decide (t570 = t574) = false := by simpa using c20))
    (try (have c20b2 : (t570 == t574) = false := by simpa using c20))
    (try (have c20b3 : ¬ (t570 = t574) := by simpa using c20))
    clear c20
    exact absurd H (by have hr_ := HRT.out; cases k <;> simp [laws_FnCombsWrap.j0, hr_])
   rw [if_neg c20] at H
   have c20b0 : (t570 != t574) = false := by simpa using c20
   (try (have c20b1 : decide (t570 = t574) = true := by simpa using c20))
   (try (have c20b2 : (t570 == t574) = true := by simpa using c20))
   clear c20
   replace H := Option.bind_eq_some_iff.mp H
   obtain ⟨t578, A210, H⟩ := H
   (try dsimp only at H)
   have A21 := Aside0.mk A210
   clear A210
   have H' := Aside0.mk H
   clear H
   obtain ⟨Ao22, co22, eo22⟩ := Kd.R_slice HO564.out
   subst eo22
   obtain ⟨Ao23, co23, eo23⟩ := Kd.V_slice HO567.out
   subst eo23
   go_wp2_with (first | (go_at_call 21; (with_reducible refine (laws_iSame.calls k _ _ t561 _ _ t565 true _ ?side1 ?side2 ?side3 ?side4 A18.out).mono ?_); (case side1 => exact xC ((Kd.R_reads' HO564.out).2.2)); (case side2 => exact (Kd.R_reads' HO564.out).2.1); (case side3 => exact xC ((Kd.V_reads' HO567.out).2.2)); (case side4 => exact (Kd.V_reads' HO567.out).2.1); rintro e w' ⟨rfl, ⟨nd, rfl⟩⟩; (try exact xD); obtain ⟨Ao24, co24, eo24⟩ := Kd.R_slice HO572.out; subst eo24; obtain ⟨Ao25, co25, eo25⟩ := Kd.R_slice HO576.out; subst eo25) | (go_at_call 21; (with_reducible refine (laws_iSame.calls k _ _ t569 _ _ t573 t578 _ ?side1 ?side2 ?side3 ?side4 A21.out).mono ?_); (case side1 => exact xC ((Kd.R_reads' HO572.out).2.2)); (case side2 => exact (Kd.R_reads' HO572.out).2.1); (case side3 => exact xC ((Kd.R_reads' HO576.out).2.2)); (case side4 => exact (Kd.R_reads' HO576.out).2.1); rintro e w' ⟨rfl, ⟨nd, rfl⟩⟩; (try exact xD)))
   repeat (go_quiet (first | (go_at_call 21; (with_reducible refine (laws_iSame.calls k _ _ t561 _ _ t565 true _ ?side1 ?side2 ?side3 ?side4 A18.out).mono ?_); (case side1 => exact xC ((Kd.R_reads' HO564.out).2.2)); (case side2 => exact (Kd.R_reads' HO564.out).2.1); (case side3 => exact xC ((Kd.V_reads' HO567.out).2.2)); (case side4 => exact (Kd.V_reads' HO567.out).2.1); rintro e w' ⟨rfl, ⟨nd, rfl⟩⟩; (try exact xD); obtain ⟨Ao24, co24, eo24⟩ := Kd.R_slice HO572.out; subst eo24; obtain ⟨Ao25, co25, eo25⟩ := Kd.R_slice HO576.out; subst eo25) | (go_at_call 21; (with_reducible refine (laws_iSame.calls k _ _ t569 _ _ t573 t578 _ ?side1 ?side2 ?side3 ?side4 A21.out).mono ?_); (case side1 => exact xC ((Kd.R_reads' HO572.out).2.2)); (case side2 => exact (Kd.R_reads' HO572.out).2.1); (case side3 => exact xC ((Kd.R_reads' HO576.out).2.2)); (case side4 => exact (Kd.R_reads' HO576.out).2.1); rintro e w' ⟨rfl, ⟨nd, rfl⟩⟩; (try exact xD))); try go_wp2_with (first | (go_at_call 21; (with_reducible refine (laws_iSame.calls k _ _ t561 _ _ t565 true _ ?side1 ?side2 ?side3 ?side4 A18.out).mono ?_); (case side1 => exact xC ((Kd.R_reads' HO564.out).2.2)); (case side2 => exact (Kd.R_reads' HO564.out).2.1); (case side3 => exact xC ((Kd.V_reads' HO567.out).2.2)); (case side4 => exact (Kd.V_reads' HO567.out).2.1); rintro e w' ⟨rfl, ⟨nd, rfl⟩⟩; (try exact xD); obtain ⟨Ao24, co24, eo24⟩ := Kd.R_slice HO572.out; subst eo24; obtain ⟨Ao25, co25, eo25⟩ := Kd.R_slice HO576.out; subst eo25) | (go_at_call 21; (with_reducible refine (laws_iSame.calls k _ _ t569 _ _ t573 t578 _ ?side1 ?side2 ?side3 ?side4 A21.out).mono ?_); (case side1 => exact xC ((Kd.R_reads' HO572.out).2.2)); (case side2 => exact (Kd.R_reads' HO572.out).2.1); (case side3 => exact xC ((Kd.R_reads' HO576.out).2.2)); (case side4 => exact (Kd.R_reads' HO576.out).2.1); rintro e w' ⟨rfl, ⟨nd, rfl⟩⟩; (try exact xD))))
   go_meet
   case rel => exact ⟨_, (!t578), (by first | rfl | (simp; done) | (simp [*]; done)), H', ⟨by first | omega | exact Nat.le_refl _⟩, ⟨by (with_reducible repeat (first | apply Kd.R_alloc | apply Kd.R_drewN | apply Kd.R_drew)); exact Kd.R_mono HO560.out (fun _ hk => ⟨hk.1.1.2, hk.1.2⟩)⟩, ⟨by (with_reducible repeat (first | apply Kd.R_alloc | apply Kd.R_drewN | apply Kd.R_drew)); exact Kd.R_mono HO564.out (fun _ hk => ⟨hk.1.1.2, hk.1.2⟩)⟩, ⟨by (with_reducible repeat (first | apply Kd.R_alloc | apply Kd.R_drewN | apply Kd.R_drew)); exact Kd.R_mono HO572.out (fun _ hk => ⟨hk.1.1.2, hk.1.2⟩)⟩, ⟨xB HB.out⟩⟩
 case rest => as_aux_lemma =>
  clear HC10
  try clear c1
  try clear c4
  obtain ⟨kq, x108_9, rfl, HA, HJ9, HO_5, HO_9, HO_13, HB⟩ := hcut
  cases kq with
  | zero => exact absurd HA.out (by simp [laws_FnCombsWrap.j0])
  | succ kj9 =>
   have H := HA.out
   clear HA
   simp only [laws_FnCombsWrap.j0] at H
   by_cases c26 : x108_9 = true
   ·as_aux_lemma =>
     subst c26
     have H1 := H
     rw [if_pos rfl] at H1
     clear H
     have H := H1
     clear H1
     exact absurd ((Option.some.inj H).trans HRT.out) (by decide)
   replace c26 := Bool.eq_false_iff.mpr c26
   subst c26
   have H1 := H
   rw [if_neg (show ¬ (false = true) by decide)] at H1
   clear H
   have H := H1
   clear H1
   have HC27 := Aside0.mk H
   clear H
   go_upto_region 10 with (fail)
   repeat (go_quiet (fail); go_upto_region 10 with (fail))
   go_cut [112] (fun v112 wc => ∃ (kq : Nat) (x112_26 : Bool), v112 = .bool x112_26 ∧ Aside0 (laws_FnCombsWrap.j1 kq l1 t555 t556 t557 t558 t561 t569 x112_26 = some r) ∧ Aside0 (kq ≤ kj9) ∧ Aside0 (Kd.R (Kd.int .i64) 3 wc w.heap.size (fun k_ => some k_ ≠ (v563 : Value).ownBlock ∧ some k_ ≠ (v571 : Value).ownBlock) (.slice Ao12 t555.length co12) t555) ∧ Aside0 (Kd.R (Kd.int .i64) 3 wc w.heap.size (fun k_ => some k_ ≠ ((.slice Ao12 t555.length co12) : Value).ownBlock ∧ some k_ ≠ (v571 : Value).ownBlock) v563 t561) ∧ Aside0 (Kd.R (Kd.int .i64) 3 wc w.heap.size (fun k_ => some k_ ≠ ((.slice Ao12 t555.length co12) : Value).ownBlock ∧ some k_ ≠ (v563 : Value).ownBlock) v571 t569) ∧ Aside0 (Below w.heap.size w wc))
   case first => as_aux_lemma =>
    have H := HC27.out
    clear HC27
    by_cases c28 : t562 = true
    ·as_aux_lemma =>
      subst c28
      have H1 := H
      rw [if_pos rfl] at H1
      clear H
      have H := H1
      clear H1
      have H' := Aside0.mk H
      clear H
      go_wp2
      repeat (go_quiet (fail); try go_wp2)
      go_meet
      case rel => exact ⟨_, (t570), (by first | rfl | (simp; done) | (simp [*]; done)), H', ⟨by have := HJ9.out; first | omega | exact Nat.le_refl _⟩, ⟨xR HO_5.out⟩, ⟨xR HO_9.out⟩, ⟨xR HO_13.out⟩, ⟨xB HB.out⟩⟩
    as_aux_lemma =>
     replace c28 := Bool.eq_false_iff.mpr c28
     subst c28
     have H1 := H
     rw [if_neg (show ¬ (false = true) by decide)] at H1
     clear H
     have H := H1
     clear H1
     have H' := Aside0.mk H
     clear H
     go_wp2
     repeat (go_quiet (fail); try go_wp2)
     go_meet
     case rel => exact ⟨_, (false), (by first | rfl | (simp; done) | (simp [*]; done)), H', ⟨by have := HJ9.out; first | omega | exact Nat.le_refl _⟩, ⟨xR HO_5.out⟩, ⟨xR HO_9.out⟩, ⟨xR HO_13.out⟩, ⟨xB HB.out⟩⟩
   case rest => as_aux_lemma =>
    clear HC27
    try clear c26
    obtain ⟨kq, x112_26, rfl, HA, HJ26, HO_5, HO_9, HO_13, HB⟩ := hcut
    cases kq with
    | zero => exact absurd HA.out (by simp [laws_FnCombsWrap.j1])
    | succ kj26 =>
     have H := HA.out
     clear HA
     simp only [laws_FnCombsWrap.j1] at H
     have HC29 := Aside0.mk H
     clear H
     go_upto_if 112 with (fail)
     repeat (go_quiet (fail); go_upto_if 112 with (fail))
     go_cut [] (fun wc => ∃ (kq : Nat), Aside0 (laws_FnCombsWrap.j6 kq l1 = some r) ∧ Aside0 (kq ≤ kj26) ∧ Aside0 (Below w.heap.size w wc))
     case first => as_aux_lemma =>
      have H := HC29.out
      clear HC29
      by_cases c30 : x112_26 = true
      rotate_left
      ·as_aux_lemma =>
        replace c30 := Bool.eq_false_iff.mpr c30
        subst c30
        have H1 := H
        rw [if_neg (show ¬ (false = true) by decide)] at H1
        clear H
        have H := H1
        clear H1
        have H' := Aside0.mk H
        clear H
        go_wp2
        repeat (go_quiet (fail); try go_wp2)
        go_meet
        case rel => exact ⟨_, H', ⟨by have := HJ9.out; have := HJ26.out; first | omega | exact Nat.le_refl _⟩, ⟨xB HB.out⟩⟩
      subst c30
      have H1 := H
      rw [if_pos rfl] at H1
      clear H
      have H := H1
      clear H1
      by_cases c31 : (t561.length : Int) = (t569.length : Int)
      rotate_left
      ·as_aux_lemma =>
        rw [if_neg c31] at H
        have c31b0 : ((t561.length : Int) == (t569.length : Int)) = false := beq_eq_false_iff_ne.mpr c31
        have c31b1 : ((t561.length : Int) != (t569.length : Int)) = true := bne_iff_ne.mpr c31
        have c31b2 : (t561.length == t569.length) = false := by first | simpa using c31 | (simp at c31 ⊢; omega)
        (first | rw [c31b0] | (simp only [i64_w, i32_w]; rw [c31b0]) | skip)
        exact absurd ((Option.some.inj H).trans HRT.out) (by decide)
      rw [if_pos c31] at H
      have c31b0 : ((t561.length : Int) == (t569.length : Int)) = true := beq_iff_eq.mpr c31
      have c31b1 : ((t561.length : Int) != (t569.length : Int)) = false := bne_eq_false_iff_eq.mpr c31
      have c31b2 : (t561.length == t569.length) = true := by first | simpa using c31 | (simp at c31 ⊢; omega)
      clear c31
      (first | rw [c31b0] | (simp only [i64_w, i32_w]; rw [c31b0]) | skip)
      have H' := Aside0.mk H
      clear H
      obtain ⟨Ao32, co32, eo32⟩ := Kd.R_slice HO_9.out
      subst eo32
      obtain ⟨Ao33, co33, eo33⟩ := Kd.R_slice HO_13.out
      subst eo33
      go_wp2
      repeat (go_quiet (fail); try go_wp2)
      go_loopg [120] kj26 (fun kq v120 w' => ∃ (x120_3 : Int), v120 = .int .i64 x120_3 ∧ Aside0 (laws_FnCombsWrap.l0 kq l1 t555 t556 t557 t558 t561 t569 t569 (t569.length : Int) x120_3 = some r) ∧ Aside0 (kq ≤ kj26) ∧ Aside0 (Kd.R (Kd.int .i64) 3 w' w.heap.size (fun k_ => some k_ ≠ ((.slice Ao32 t561.length co32) : Value).ownBlock ∧ some k_ ≠ ((.slice Ao33 t569.length co33) : Value).ownBlock ∧ some k_ ≠ ((.slice Ao33 t569.length co33) : Value).ownBlock) (.slice Ao12 t555.length co12) t555) ∧ Aside0 (Kd.R (Kd.int .i64) 3 w' w.heap.size (fun k_ => some k_ ≠ ((.slice Ao12 t555.length co12) : Value).ownBlock ∧ some k_ ≠ ((.slice Ao33 t569.length co33) : Value).ownBlock ∧ some k_ ≠ ((.slice Ao33 t569.length co33) : Value).ownBlock) (.slice Ao32 t561.length co32) t561) ∧ Aside0 (Kd.R (Kd.int .i64) 3 w' w.heap.size (fun k_ => some k_ ≠ ((.slice Ao12 t555.length co12) : Value).ownBlock ∧ some k_ ≠ ((.slice Ao32 t561.length co32) : Value).ownBlock) (.slice Ao33 t569.length co33) t569) ∧ Aside0 (Kd.R (Kd.int .i64) 3 w' w.heap.size (fun k_ => some k_ ≠ ((.slice Ao12 t555.length co12) : Value).ownBlock ∧ some k_ ≠ ((.slice Ao32 t561.length co32) : Value).ownBlock) (.slice Ao33 t569.length co33) t569) ∧ Aside0 (Below w.heap.size w w'))
      case atStart => exact ⟨(0), (by first | rfl | (simp; done) | (simp [*]; done)), H', ⟨Nat.le_refl _⟩, ⟨by (with_reducible repeat (first | apply Kd.R_alloc | apply Kd.R_drewN | apply Kd.R_drew)); exact Kd.R_mono HO_5.out (fun _ hk => ⟨hk.1, ⟨hk.2, hk.2⟩⟩)⟩, ⟨by (with_reducible repeat (first | apply Kd.R_alloc | apply Kd.R_drewN | apply Kd.R_drew)); exact Kd.R_mono HO_9.out (fun _ hk => ⟨hk.1, ⟨hk.2, hk.2⟩⟩)⟩, ⟨xR HO_13.out⟩, ⟨xR HO_13.out⟩, ⟨xB HB.out⟩⟩
      case round =>
       clear H'
       try clear c30
       try clear c31b0
       try clear c31b1
       try clear c31b2
       obtain ⟨x120_3, rfl, HA, HK3, HO_5, HO_9, HO_13, HO_118, HB⟩ := hrel
       cases gk with
       | zero => exact absurd HA.out (by simp [laws_FnCombsWrap.l0])
       | succ k3 =>
        have H := HA.out
        clear HA
        simp only [laws_FnCombsWrap.l0] at H
        by_cases c34 : x120_3 < (t569.length : Int)
        ·as_aux_lemma =>
          rw [if_pos c34] at H
          have c34b0 : decide (x120_3 < (t569.length : Int)) = true := decide_eq_true c34
          clear c34
          by_cases c35 : 0 ≤ x120_3
          rotate_left
          ·rw [if_neg c35] at H
           exact absurd H (by simp)
          rw [if_pos c35] at H
          have c35b0 : decide (0 ≤ x120_3) = true := decide_eq_true c35
          clear c35
          by_cases c36 : x120_3 < (t569.length : Int)
          rotate_left
          ·rw [if_neg c36] at H
           exact absurd H (by simp)
          rw [if_pos c36] at H
          have c36b0 : decide (x120_3 < (t569.length : Int)) = true := decide_eq_true c36
          clear c36
          by_cases c37 : x120_3 < (t561.length : Int)
          rotate_left
          ·rw [if_neg c37] at H
           exact absurd H (by simp)
          rw [if_pos c37] at H
          have c37b0 : decide (x120_3 < (t561.length : Int)) = true := decide_eq_true c37
          clear c37
          replace H := Option.bind_eq_some_iff.mp H
          obtain ⟨t581, A380, H⟩ := H
          (try dsimp only at H)
          have A38 := Aside0.mk A380
          clear A380
          by_cases c39 : (rd t561 x120_3) = t581
          rotate_left
          ·rw [if_neg c39] at H
           have c39b0 : ((rd t561 x120_3) == t581) = false := beq_eq_false_iff_ne.mpr c39
           have c39b1 : ((rd t561 x120_3) != t581) = true := bne_iff_ne.mpr c39
           exact absurd ((Option.some.inj H).trans HRT.out) (by decide)
          rw [if_pos c39] at H
          have c39b0 : ((rd t561 x120_3) == t581) = true := beq_iff_eq.mpr c39
          have c39b1 : ((rd t561 x120_3) != t581) = false := bne_eq_false_iff_eq.mpr c39
          clear c39
          have H' := Aside0.mk H
          clear H
          have p579 : 0 ≤ (x120_3 : Int) := of_decide_eq_true (by first | (with_reducible assumption) | assumption)
          have q579 : x120_3 < (t569.length : Int) := of_decide_eq_true (by first | (with_reducible assumption) | assumption)
          obtain ⟨ad579, e579, hx579_0⟩ := Kd.at_int (Kd.R_reads' HO_118.out).2.2 x120_3 p579 q579
          cases e579
          replace p579 := eq_true p579
          replace q579 := eq_true q579
          have p580 : 0 ≤ (x120_3 : Int) := of_decide_eq_true (by first | (with_reducible assumption) | assumption)
          have q580 : x120_3 < (t561.length : Int) := of_decide_eq_true (by first | (with_reducible assumption) | assumption)
          obtain ⟨ad580, e580, hx580_0⟩ := Kd.at_int (Kd.R_reads' HO_9.out).2.2 x120_3 p580 q580
          cases e580
          replace p580 := eq_true p580
          replace q580 := eq_true q580
          go_wp2_with (first | (go_at_call 63; (with_reducible refine (laws_iWrap.calls (rd t569 x120_3) t556 t581 _ A38.out).mono ?_); rintro e w' ⟨rfl, ⟨nd, rfl⟩⟩; (try exact xD)))
          repeat (go_quiet (first | (go_at_call 63; (with_reducible refine (laws_iWrap.calls (rd t569 x120_3) t556 t581 _ A38.out).mono ?_); rintro e w' ⟨rfl, ⟨nd, rfl⟩⟩; (try exact xD))); try go_wp2_with (first | (go_at_call 63; (with_reducible refine (laws_iWrap.calls (rd t569 x120_3) t556 t581 _ A38.out).mono ?_); rintro e w' ⟨rfl, ⟨nd, rfl⟩⟩; (try exact xD))))
          go_roundg k3
          case measure => have := HJ9.out; have := HJ26.out; have := HK3.out; omega
          case rel => exact ⟨(wrap64 (x120_3 + 1)), (by first | rfl | (simp; done) | (simp [*]; done)), H', ⟨by have := HJ9.out; have := HJ26.out; have := HK3.out; omega⟩, ⟨xR HO_5.out⟩, ⟨xR HO_9.out⟩, ⟨xR HO_13.out⟩, ⟨xR HO_118.out⟩, ⟨xB HB.out⟩⟩
        rw [if_neg c34] at H
        have c34b0 : decide (x120_3 < (t569.length : Int)) = false := decide_eq_false c34
        clear c34
        replace H := Option.bind_eq_some_iff.mp H
        obtain ⟨⟨t582, t583⟩, A400, H⟩ := H
        (try dsimp only at H)
        have A40 := Aside0.mk A400
        clear A400
        have HC41 := Aside0.mk H
        clear H
        go_upto_region 20 with (first | (go_at_call 128; (with_reducible refine (impl_LeastBits.calls k3 _ _ t555 t557 t558 t582 t583 _ ?side1 ?side2 A40.out).mono ?_); (case side1 => exact xC ((Kd.R_reads' HO_5.out).2.2)); (case side2 => exact (Kd.R_reads' HO_5.out).2.1); rintro e w42 ⟨rfl, hb⟩; have n0_ := Aside0.mk (Kd.R_below (xR HO_5.out) hb); have n1_ := Aside0.mk (Kd.R_below (xR HO_9.out) hb); have n2_ := Aside0.mk (Kd.R_below (xR HO_13.out) hb); have n3_ := Aside0.mk (Kd.R_below (xR HO_118.out) hb); have n4_ := Aside0.mk (below_step (xB HB.out) hb); clear HO_5; clear HO_9; clear HO_13; clear HO_118; clear HB; have HO_5 := n0_; have HO_9 := n1_; have HO_13 := n2_; have HO_118 := n3_; have HB := n4_; clear n0_ n1_ n2_ n3_ n4_; (try clear hb); (try clear hb2); (try clear hk); (try clear hi)))
        repeat (go_quiet (first | (go_at_call 128; (with_reducible refine (impl_LeastBits.calls k3 _ _ t555 t557 t558 t582 t583 _ ?side1 ?side2 A40.out).mono ?_); (case side1 => exact xC ((Kd.R_reads' HO_5.out).2.2)); (case side2 => exact (Kd.R_reads' HO_5.out).2.1); rintro e w42 ⟨rfl, hb⟩; have n0_ := Aside0.mk (Kd.R_below (xR HO_5.out) hb); have n1_ := Aside0.mk (Kd.R_below (xR HO_9.out) hb); have n2_ := Aside0.mk (Kd.R_below (xR HO_13.out) hb); have n3_ := Aside0.mk (Kd.R_below (xR HO_118.out) hb); have n4_ := Aside0.mk (below_step (xB HB.out) hb); clear HO_5; clear HO_9; clear HO_13; clear HO_118; clear HB; have HO_5 := n0_; have HO_9 := n1_; have HO_13 := n2_; have HO_118 := n3_; have HB := n4_; clear n0_ n1_ n2_ n3_ n4_; (try clear hb); (try clear hb2); (try clear hk); (try clear hi))); go_upto_region 20 with (first | (go_at_call 128; (with_reducible refine (impl_LeastBits.calls k3 _ _ t555 t557 t558 t582 t583 _ ?side1 ?side2 A40.out).mono ?_); (case side1 => exact xC ((Kd.R_reads' HO_5.out).2.2)); (case side2 => exact (Kd.R_reads' HO_5.out).2.1); rintro e w42 ⟨rfl, hb⟩; have n0_ := Aside0.mk (Kd.R_below (xR HO_5.out) hb); have n1_ := Aside0.mk (Kd.R_below (xR HO_9.out) hb); have n2_ := Aside0.mk (Kd.R_below (xR HO_13.out) hb); have n3_ := Aside0.mk (Kd.R_below (xR HO_118.out) hb); have n4_ := Aside0.mk (below_step (xB HB.out) hb); clear HO_5; clear HO_9; clear HO_13; clear HO_118; clear HB; have HO_5 := n0_; have HO_9 := n1_; have HO_13 := n2_; have HO_118 := n3_; have HB := n4_; clear n0_ n1_ n2_ n3_ n4_; (try clear hb); (try clear hb2); (try clear hk); (try clear hi))))
        (try simp only [Act.put, List.setIfInBounds_toArray, List.set_cons_zero, List.set_cons_succ])
        go_cut [168] (fun v168 wc => ∃ (kq : Nat) (x168_40 : Bool), v168 = .bool x168_40 ∧ Aside0 (laws_FnCombsWrap.j3 kq l1 t555 t556 t557 t558 t561 t569 x168_40 = some r) ∧ Aside0 (kq ≤ k3) ∧ Aside0 (Kd.R (Kd.int .i64) 3 wc w.heap.size (fun k_ => some k_ ≠ ((.slice Ao32 t561.length co32) : Value).ownBlock ∧ some k_ ≠ ((.slice Ao33 t569.length co33) : Value).ownBlock) (.slice Ao12 t555.length co12) t555) ∧ Aside0 (Kd.R (Kd.int .i64) 3 wc w.heap.size (fun k_ => some k_ ≠ ((.slice Ao12 t555.length co12) : Value).ownBlock ∧ some k_ ≠ ((.slice Ao33 t569.length co33) : Value).ownBlock) (.slice Ao32 t561.length co32) t561) ∧ Aside0 (Kd.R (Kd.int .i64) 3 wc w.heap.size (fun k_ => some k_ ≠ ((.slice Ao12 t555.length co12) : Value).ownBlock ∧ some k_ ≠ ((.slice Ao32 t561.length co32) : Value).ownBlock) (.slice Ao33 t569.length co33) t569) ∧ Aside0 (Below w.heap.size w wc))
        case first => as_aux_lemma =>
         have H := HC41.out
         clear HC41
         by_cases c43 : t583 = true
         rotate_left
         ·as_aux_lemma =>
           replace c43 := Bool.eq_false_iff.mpr c43
           subst c43
           have H1 := H
           rw [if_neg (show ¬ (false = true) by decide)] at H1
           clear H
           have H := H1
           clear H1
           exact absurd H (by have hr_ := HRT.out; cases k3 <;> simp [laws_FnCombsWrap.j3, hr_])
         subst c43
         have H1 := H
         rw [if_pos rfl] at H1
         clear H
         have H := H1
         clear H1
         by_cases c44 : t582 ≤ t556
         rotate_left
         ·as_aux_lemma =>
           rw [if_neg c44] at H
           have c44b0 : decide (t582 ≤ t556) = false := decide_eq_false c44
           clear c44
           (first | rw [c44b0] | (simp only [i64_w, i32_w]; rw [c44b0]) | skip)
           by_cases c52 : t556 < t582
           rotate_left
           ·as_aux_lemma =>
              rw [if_neg c52] at H
              have c52b0 : decide (t556 < t582) = false := decide_eq_false c52
              clear c52
              have H' := Aside0.mk H
              clear H
              go_wp2
              repeat (go_quiet (fail); try go_wp2)
              go_meet
              case rel => exact ⟨_, (false), (by first | rfl | (simp; done) | (simp [*]; done)), H', ⟨by have := HJ9.out; have := HJ26.out; have := HK3.out; first | omega | exact Nat.le_refl _⟩, ⟨by (with_reducible repeat (first | apply Kd.R_alloc | apply Kd.R_drewN | apply Kd.R_drew)); exact Kd.R_mono HO_5.out (fun _ hk => ⟨hk.1, hk.2.1⟩)⟩, ⟨by (with_reducible repeat (first | apply Kd.R_alloc | apply Kd.R_drewN | apply Kd.R_drew)); exact Kd.R_mono HO_9.out (fun _ hk => ⟨hk.1, hk.2.1⟩)⟩, ⟨xR HO_13.out⟩, ⟨xB HB.out⟩⟩
           rw [if_pos c52] at H
           have c52b0 : decide (t556 < t582) = true := decide_eq_true c52
           clear c52
           replace H := Option.bind_eq_some_iff.mp H
           obtain ⟨t587, A530, H⟩ := H
           (try dsimp only at H)
           have A53 := Aside0.mk A530
           clear A530
           have H' := Aside0.mk H
           clear H
           go_wp2_with (first | (go_at_call 21; (with_reducible refine (laws_iSame.calls k3 _ _ t561 _ _ t569 t587 _ ?side1 ?side2 ?side3 ?side4 A53.out).mono ?_); (case side1 => exact xC ((Kd.R_reads' HO_9.out).2.2)); (case side2 => exact (Kd.R_reads' HO_9.out).2.1); (case side3 => exact xC ((Kd.R_reads' HO_13.out).2.2)); (case side4 => exact (Kd.R_reads' HO_13.out).2.1); rintro e w' ⟨rfl, ⟨nd, rfl⟩⟩; (try exact xD)))
           repeat (go_quiet (first | (go_at_call 21; (with_reducible refine (laws_iSame.calls k3 _ _ t561 _ _ t569 t587 _ ?side1 ?side2 ?side3 ?side4 A53.out).mono ?_); (case side1 => exact xC ((Kd.R_reads' HO_9.out).2.2)); (case side2 => exact (Kd.R_reads' HO_9.out).2.1); (case side3 => exact xC ((Kd.R_reads' HO_13.out).2.2)); (case side4 => exact (Kd.R_reads' HO_13.out).2.1); rintro e w' ⟨rfl, ⟨nd, rfl⟩⟩; (try exact xD))); try go_wp2_with (first | (go_at_call 21; (with_reducible refine (laws_iSame.calls k3 _ _ t561 _ _ t569 t587 _ ?side1 ?side2 ?side3 ?side4 A53.out).mono ?_); (case side1 => exact xC ((Kd.R_reads' HO_9.out).2.2)); (case side2 => exact (Kd.R_reads' HO_9.out).2.1); (case side3 => exact xC ((Kd.R_reads' HO_13.out).2.2)); (case side4 => exact (Kd.R_reads' HO_13.out).2.1); rintro e w' ⟨rfl, ⟨nd, rfl⟩⟩; (try exact xD))))
           go_meet
           case rel => exact ⟨_, (t587), (by first | rfl | (simp; done) | (simp [*]; done)), H', ⟨by have := HJ9.out; have := HJ26.out; have := HK3.out; first | omega | exact Nat.le_refl _⟩, ⟨by (with_reducible repeat (first | apply Kd.R_alloc | apply Kd.R_drewN | apply Kd.R_drew)); exact Kd.R_mono HO_5.out (fun _ hk => ⟨hk.1, hk.2.1⟩)⟩, ⟨by (with_reducible repeat (first | apply Kd.R_alloc | apply Kd.R_drewN | apply Kd.R_drew)); exact Kd.R_mono HO_9.out (fun _ hk => ⟨hk.1, hk.2.1⟩)⟩, ⟨xR HO_13.out⟩, ⟨xB HB.out⟩⟩
         rw [if_pos c44] at H
         have c44b0 : decide (t582 ≤ t556) = true := decide_eq_true c44
         clear c44
         (first | rw [c44b0] | (simp only [i64_w, i32_w]; rw [c44b0]) | skip)
         by_cases c45 : t582 = t556
         rotate_left
         ·as_aux_lemma =>
           rw [if_neg c45] at H
           have c45b0 : (t582 == t556) = false := beq_eq_false_iff_ne.mpr c45
           have c45b1 : (t582 != t556) = true := bne_iff_ne.mpr c45
           by_cases c50 : t556 < t582
           rotate_left
           ·as_aux_lemma =>
              rw [if_neg c50] at H
              have c50b0 : decide (t556 < t582) = false := decide_eq_false c50
              clear c50
              have H' := Aside0.mk H
              clear H
              go_wp2
              repeat (go_quiet (fail); try go_wp2)
              go_meet
              case rel => exact ⟨_, (false), (by first | rfl | (simp; done) | (simp [*]; done)), H', ⟨by have := HJ9.out; have := HJ26.out; have := HK3.out; first | omega | exact Nat.le_refl _⟩, ⟨by (with_reducible repeat (first | apply Kd.R_alloc | apply Kd.R_drewN | apply Kd.R_drew)); exact Kd.R_mono HO_5.out (fun _ hk => ⟨hk.1, hk.2.1⟩)⟩, ⟨by (with_reducible repeat (first | apply Kd.R_alloc | apply Kd.R_drewN | apply Kd.R_drew)); exact Kd.R_mono HO_9.out (fun _ hk => ⟨hk.1, hk.2.1⟩)⟩, ⟨xR HO_13.out⟩, ⟨xB HB.out⟩⟩
           rw [if_pos c50] at H
           have c50b0 : decide (t556 < t582) = true := decide_eq_true c50
           clear c50
           replace H := Option.bind_eq_some_iff.mp H
           obtain ⟨t586, A510, H⟩ := H
           (try dsimp only at H)
           have A51 := Aside0.mk A510
           clear A510
           have H' := Aside0.mk H
           clear H
           go_wp2_with (first | (go_at_call 21; (with_reducible refine (laws_iSame.calls k3 _ _ t561 _ _ t569 t586 _ ?side1 ?side2 ?side3 ?side4 A51.out).mono ?_); (case side1 => exact xC ((Kd.R_reads' HO_9.out).2.2)); (case side2 => exact (Kd.R_reads' HO_9.out).2.1); (case side3 => exact xC ((Kd.R_reads' HO_13.out).2.2)); (case side4 => exact (Kd.R_reads' HO_13.out).2.1); rintro e w' ⟨rfl, ⟨nd, rfl⟩⟩; (try exact xD)))
           repeat (go_quiet (first | (go_at_call 21; (with_reducible refine (laws_iSame.calls k3 _ _ t561 _ _ t569 t586 _ ?side1 ?side2 ?side3 ?side4 A51.out).mono ?_); (case side1 => exact xC ((Kd.R_reads' HO_9.out).2.2)); (case side2 => exact (Kd.R_reads' HO_9.out).2.1); (case side3 => exact xC ((Kd.R_reads' HO_13.out).2.2)); (case side4 => exact (Kd.R_reads' HO_13.out).2.1); rintro e w' ⟨rfl, ⟨nd, rfl⟩⟩; (try exact xD))); try go_wp2_with (first | (go_at_call 21; (with_reducible refine (laws_iSame.calls k3 _ _ t561 _ _ t569 t586 _ ?side1 ?side2 ?side3 ?side4 A51.out).mono ?_); (case side1 => exact xC ((Kd.R_reads' HO_9.out).2.2)); (case side2 => exact (Kd.R_reads' HO_9.out).2.1); (case side3 => exact xC ((Kd.R_reads' HO_13.out).2.2)); (case side4 => exact (Kd.R_reads' HO_13.out).2.1); rintro e w' ⟨rfl, ⟨nd, rfl⟩⟩; (try exact xD))))
           go_meet
           case rel => exact ⟨_, (t586), (by first | rfl | (simp; done) | (simp [*]; done)), H', ⟨by have := HJ9.out; have := HJ26.out; have := HK3.out; first | omega | exact Nat.le_refl _⟩, ⟨by (with_reducible repeat (first | apply Kd.R_alloc | apply Kd.R_drewN | apply Kd.R_drew)); exact Kd.R_mono HO_5.out (fun _ hk => ⟨hk.1, hk.2.1⟩)⟩, ⟨by (with_reducible repeat (first | apply Kd.R_alloc | apply Kd.R_drewN | apply Kd.R_drew)); exact Kd.R_mono HO_9.out (fun _ hk => ⟨hk.1, hk.2.1⟩)⟩, ⟨xR HO_13.out⟩, ⟨xB HB.out⟩⟩
         as_aux_lemma =>
          rw [if_pos c45] at H
          have c45b0 : (t582 == t556) = true := beq_iff_eq.mpr c45
          have c45b1 : (t582 != t556) = false := bne_eq_false_iff_eq.mpr c45
          clear c45
          replace H := Option.bind_eq_some_iff.mp H
          obtain ⟨t584, A460, H⟩ := H
          (try dsimp only at H)
          have A46 := Aside0.mk A460
          clear A460
          by_cases c47 : t584 = true
          rotate_left
          ·replace c47 := Bool.eq_false_iff.mpr c47
           subst c47
           have H1 := H
           rw [if_neg (show ¬ (false = true) by decide)] at H1
           clear H
           have H := H1
           clear H1
           exact absurd H (by have hr_ := HRT.out; cases k3 <;> simp [laws_FnCombsWrap.j3, hr_])
          subst c47
          have H1 := H
          rw [if_pos rfl] at H1
          clear H
          have H := H1
          clear H1
          by_cases c48 : t556 < t582
          rotate_left
          ·as_aux_lemma =>
             rw [if_neg c48] at H
             have c48b0 : decide (t556 < t582) = false := decide_eq_false c48
             clear c48
             have H' := Aside0.mk H
             clear H
             go_wp2_with (first | (go_at_call 21; (with_reducible refine (laws_iSame.calls k3 _ _ t561 _ _ t569 true _ ?side1 ?side2 ?side3 ?side4 A46.out).mono ?_); (case side1 => exact xC ((Kd.R_reads' HO_9.out).2.2)); (case side2 => exact (Kd.R_reads' HO_9.out).2.1); (case side3 => exact xC ((Kd.R_reads' HO_13.out).2.2)); (case side4 => exact (Kd.R_reads' HO_13.out).2.1); rintro e w' ⟨rfl, ⟨nd, rfl⟩⟩; (try exact xD)))
             repeat (go_quiet (first | (go_at_call 21; (with_reducible refine (laws_iSame.calls k3 _ _ t561 _ _ t569 true _ ?side1 ?side2 ?side3 ?side4 A46.out).mono ?_); (case side1 => exact xC ((Kd.R_reads' HO_9.out).2.2)); (case side2 => exact (Kd.R_reads' HO_9.out).2.1); (case side3 => exact xC ((Kd.R_reads' HO_13.out).2.2)); (case side4 => exact (Kd.R_reads' HO_13.out).2.1); rintro e w' ⟨rfl, ⟨nd, rfl⟩⟩; (try exact xD))); try go_wp2_with (first | (go_at_call 21; (with_reducible refine (laws_iSame.calls k3 _ _ t561 _ _ t569 true _ ?side1 ?side2 ?side3 ?side4 A46.out).mono ?_); (case side1 => exact xC ((Kd.R_reads' HO_9.out).2.2)); (case side2 => exact (Kd.R_reads' HO_9.out).2.1); (case side3 => exact xC ((Kd.R_reads' HO_13.out).2.2)); (case side4 => exact (Kd.R_reads' HO_13.out).2.1); rintro e w' ⟨rfl, ⟨nd, rfl⟩⟩; (try exact xD))))
             go_meet
             case rel => exact ⟨_, (false), (by first | rfl | (simp; done) | (simp [*]; done)), H', ⟨by have := HJ9.out; have := HJ26.out; have := HK3.out; first | omega | exact Nat.le_refl _⟩, ⟨by (with_reducible repeat (first | apply Kd.R_alloc | apply Kd.R_drewN | apply Kd.R_drew)); exact Kd.R_mono HO_5.out (fun _ hk => ⟨hk.1, hk.2.1⟩)⟩, ⟨by (with_reducible repeat (first | apply Kd.R_alloc | apply Kd.R_drewN | apply Kd.R_drew)); exact Kd.R_mono HO_9.out (fun _ hk => ⟨hk.1, hk.2.1⟩)⟩, ⟨xR HO_13.out⟩, ⟨xB HB.out⟩⟩
          rw [if_pos c48] at H
          have c48b0 : decide (t556 < t582) = true := decide_eq_true c48
          clear c48
          replace H := Option.bind_eq_some_iff.mp H
          obtain ⟨t585, A490, H⟩ := H
          (try dsimp only at H)
          have A49 := Aside0.mk A490
          obtain rfl : true = t585 := Option.some.inj (A46.out.symm.trans A49.out)
          clear A490
          have H' := Aside0.mk H
          clear H
          go_wp2_with (first | (go_at_call 21; (with_reducible refine (laws_iSame.calls k3 _ _ t561 _ _ t569 true _ ?side1 ?side2 ?side3 ?side4 A46.out).mono ?_); (case side1 => exact xC ((Kd.R_reads' HO_9.out).2.2)); (case side2 => exact (Kd.R_reads' HO_9.out).2.1); (case side3 => exact xC ((Kd.R_reads' HO_13.out).2.2)); (case side4 => exact (Kd.R_reads' HO_13.out).2.1); rintro e w' ⟨rfl, ⟨nd, rfl⟩⟩; (try exact xD)) | (go_at_call 21; (with_reducible refine (laws_iSame.calls k3 _ _ t561 _ _ t569 true _ ?side1 ?side2 ?side3 ?side4 A49.out).mono ?_); (case side1 => exact xC ((Kd.R_reads' HO_9.out).2.2)); (case side2 => exact (Kd.R_reads' HO_9.out).2.1); (case side3 => exact xC ((Kd.R_reads' HO_13.out).2.2)); (case side4 => exact (Kd.R_reads' HO_13.out).2.1); rintro e w' ⟨rfl, ⟨nd, rfl⟩⟩; (try exact xD)))
          repeat (go_quiet (first | (go_at_call 21; (with_reducible refine (laws_iSame.calls k3 _ _ t561 _ _ t569 true _ ?side1 ?side2 ?side3 ?side4 A46.out).mono ?_); (case side1 => exact xC ((Kd.R_reads' HO_9.out).2.2)); (case side2 => exact (Kd.R_reads' HO_9.out).2.1); (case side3 => exact xC ((Kd.R_reads' HO_13.out).2.2)); (case side4 => exact (Kd.R_reads' HO_13.out).2.1); rintro e w' ⟨rfl, ⟨nd, rfl⟩⟩; (try exact xD)) | (go_at_call 21; (with_reducible refine (laws_iSame.calls k3 _ _ t561 _ _ t569 true _ ?side1 ?side2 ?side3 ?side4 A49.out).mono ?_); (case side1 => exact xC ((Kd.R_reads' HO_9.out).2.2)); (case side2 => exact (Kd.R_reads' HO_9.out).2.1); (case side3 => exact xC ((Kd.R_reads' HO_13.out).2.2)); (case side4 => exact (Kd.R_reads' HO_13.out).2.1); rintro e w' ⟨rfl, ⟨nd, rfl⟩⟩; (try exact xD))); try go_wp2_with (first | (go_at_call 21; (with_reducible refine (laws_iSame.calls k3 _ _ t561 _ _ t569 true _ ?side1 ?side2 ?side3 ?side4 A46.out).mono ?_); (case side1 => exact xC ((Kd.R_reads' HO_9.out).2.2)); (case side2 => exact (Kd.R_reads' HO_9.out).2.1); (case side3 => exact xC ((Kd.R_reads' HO_13.out).2.2)); (case side4 => exact (Kd.R_reads' HO_13.out).2.1); rintro e w' ⟨rfl, ⟨nd, rfl⟩⟩; (try exact xD)) | (go_at_call 21; (with_reducible refine (laws_iSame.calls k3 _ _ t561 _ _ t569 true _ ?side1 ?side2 ?side3 ?side4 A49.out).mono ?_); (case side1 => exact xC ((Kd.R_reads' HO_9.out).2.2)); (case side2 => exact (Kd.R_reads' HO_9.out).2.1); (case side3 => exact xC ((Kd.R_reads' HO_13.out).2.2)); (case side4 => exact (Kd.R_reads' HO_13.out).2.1); rintro e w' ⟨rfl, ⟨nd, rfl⟩⟩; (try exact xD))))
          go_meet
          case rel => exact ⟨_, (true), (by first | rfl | (simp; done) | (simp [*]; done)), H', ⟨by have := HJ9.out; have := HJ26.out; have := HK3.out; first | omega | exact Nat.le_refl _⟩, ⟨by (with_reducible repeat (first | apply Kd.R_alloc | apply Kd.R_drewN | apply Kd.R_drew)); exact Kd.R_mono HO_5.out (fun _ hk => ⟨hk.1, hk.2.1⟩)⟩, ⟨by (with_reducible repeat (first | apply Kd.R_alloc | apply Kd.R_drewN | apply Kd.R_drew)); exact Kd.R_mono HO_9.out (fun _ hk => ⟨hk.1, hk.2.1⟩)⟩, ⟨xR HO_13.out⟩, ⟨xB HB.out⟩⟩
        case rest => as_aux_lemma =>
         clear HC41
         try clear c34b0
         obtain ⟨kq, x168_40, rfl, HA, HJ40, HO_5, HO_9, HO_13, HB⟩ := hcut
         cases kq with
         | zero => exact absurd HA.out (by simp [laws_FnCombsWrap.j3])
         | succ kj40 =>
          have H := HA.out
          clear HA
          simp only [laws_FnCombsWrap.j3] at H
          by_cases c54 : x168_40 = true
          ·as_aux_lemma =>
            subst c54
            have H1 := H
            rw [if_pos rfl] at H1
            clear H
            have H := H1
            clear H1
            exact absurd ((Option.some.inj H).trans HRT.out) (by decide)
          replace c54 := Bool.eq_false_iff.mpr c54
          subst c54
          have H1 := H
          rw [if_neg (show ¬ (false = true) by decide)] at H1
          clear H
          have H := H1
          clear H1
          have H' := Aside0.mk H
          clear H
          go_wp2
          repeat (go_quiet (fail); try go_wp2)
          go_loopg [22] kj40 (fun kq v22 w' => ∃ (x22_5 : Int), v22 = .int .i64 x22_5 ∧ Aside0 (laws_FnCombsWrap.l1 kq l1 t555 t556 t557 t558 t561 t569 x22_5 = some r) ∧ Aside0 (kq ≤ kj40) ∧ Aside0 (Kd.R (Kd.int .i64) 3 w' w.heap.size (fun k_ => some k_ ≠ ((.slice Ao32 t561.length co32) : Value).ownBlock ∧ some k_ ≠ ((.slice Ao33 t569.length co33) : Value).ownBlock) (.slice Ao12 t555.length co12) t555) ∧ Aside0 (Kd.R (Kd.int .i64) 3 w' w.heap.size (fun k_ => some k_ ≠ ((.slice Ao12 t555.length co12) : Value).ownBlock ∧ some k_ ≠ ((.slice Ao33 t569.length co33) : Value).ownBlock) (.slice Ao32 t561.length co32) t561) ∧ Aside0 (Kd.R (Kd.int .i64) 3 w' w.heap.size (fun k_ => some k_ ≠ ((.slice Ao12 t555.length co12) : Value).ownBlock ∧ some k_ ≠ ((.slice Ao32 t561.length co32) : Value).ownBlock) (.slice Ao33 t569.length co33) t569) ∧ Aside0 (Below w.heap.size w w'))
          case atStart => exact ⟨(2), (by first | rfl | (simp; done) | (simp [*]; done)), H', ⟨Nat.le_refl _⟩, ⟨xR HO_5.out⟩, ⟨xR HO_9.out⟩, ⟨xR HO_13.out⟩, ⟨xB HB.out⟩⟩
          case round =>
           clear H'
           try clear c54
           obtain ⟨x22_5, rfl, HA, HK5, HO_5, HO_9, HO_13, HB⟩ := hrel
           cases gk with
           | zero => exact absurd HA.out (by simp [laws_FnCombsWrap.l1])
           | succ k5 =>
            have H := HA.out
            clear HA
            simp only [laws_FnCombsWrap.l1] at H
            by_cases c55 : x22_5 ≤ 16
            rotate_left
            ·as_aux_lemma =>
              rw [if_neg c55] at H
              have c55b0 : decide (x22_5 ≤ 16) = false := decide_eq_false c55
              clear c55
              have H' := Aside0.mk H
              clear H
              go_wp2
              repeat (go_quiet (fail); try go_wp2)
              go_meet
              case rel => exact ⟨_, H', ⟨by have := HJ9.out; have := HJ26.out; have := HK3.out; have := HJ40.out; have := HK5.out; first | omega | exact Nat.le_refl _⟩, ⟨xB HB.out⟩⟩
            rw [if_pos c55] at H
            have c55b0 : decide (x22_5 ≤ 16) = true := decide_eq_true c55
            clear c55
            obtain ⟨ji56, hji56⟩ : ∃ j_ : Int, (wrap64 (x22_5 - 1)) = j_ := ⟨_, rfl⟩
            replace H : (if 0 ≤ (ji56) then (laws_FnCombsWrap.l2 k5 l1 t555 t556 t557 t558 t561 t569 true x22_5 (wrap64 (-(shl .i64 1 (ji56)))) t555 (t555.length : Int) 0) else (none)) = some r := by first | (rw [hji56] at H; exact H) | (simp only [hji56] at H ⊢; exact H)
            have hji56w : (IntKind.i64.wrap (x22_5 - 1)) = ji56 := (i64_w _).trans hji56
            by_cases c57 : 0 ≤ (ji56)
            rotate_left
            ·rw [if_neg c57] at H
             exact absurd H (by simp)
            rw [if_pos c57] at H
            have c57b0 := eq_true c57
            have c57b1 : decide (0 ≤ (ji56)) = true := decide_eq_true c57
            clear c57
            obtain ⟨ji58, hji58⟩ : ∃ j_ : Int, (shl .i64 1 (ji56)) = j_ := ⟨_, rfl⟩
            replace H : (laws_FnCombsWrap.l2 k5 l1 t555 t556 t557 t558 t561 t569 true x22_5 (wrap64 (-(ji58))) t555 (t555.length : Int) 0) = some r := by first | (rw [hji58] at H; exact H) | (simp only [hji58] at H ⊢; exact H)
            have hji58_ : (IntKind.i64.wrap (1 * 2 ^ min (ji56).toNat 64)) = ji58 := hji58
            have hji58z : (ji56) ≤ 64 → (IntKind.i64.wrap (1 * 2 ^ (ji56).toNat)) = ji58 := shl_small hji58
            have hji58u : (IntKind.i64.wrap (2 ^ min (ji56).toNat 64)) = ji58 := by have h_ := hji58_; rw [Int.one_mul] at h_; exact h_
            have hji58v : (ji56) ≤ 64 → (IntKind.i64.wrap (2 ^ (ji56).toNat)) = ji58 := fun hle_ => by have h_ := hji58z hle_; rw [Int.one_mul] at h_; exact h_
            have hji58y : (wrap64 (1 * 2 ^ min (ji56).toNat 64)) = ji58 := (i64_w _).symm.trans hji58_
            have hji58x : (ji56) ≤ 64 → (wrap64 (1 * 2 ^ (ji56).toNat)) = ji58 := fun h_ => (i64_w _).symm.trans (hji58z h_)
            have H' := Aside0.mk H
            clear H
            go_wp2
            repeat (go_quiet (fail); try go_wp2)
            go_loopg [21, 179] k5 (fun kq v21 v179 w' => ∃ (x21_6 : Bool) (x179_6 : Int), v21 = .bool x21_6 ∧ v179 = .int .i64 x179_6 ∧ Aside0 (laws_FnCombsWrap.l2 kq l1 t555 t556 t557 t558 t561 t569 x21_6 x22_5 (wrap64 (-(ji58))) t555 (t555.length : Int) x179_6 = some r) ∧ Aside0 (kq ≤ k5) ∧ Aside0 (Kd.R (Kd.int .i64) 3 w' w.heap.size (fun k_ => some k_ ≠ ((.slice Ao32 t561.length co32) : Value).ownBlock ∧ some k_ ≠ ((.slice Ao33 t569.length co33) : Value).ownBlock) (.slice Ao12 t555.length co12) t555) ∧ Aside0 (Kd.R (Kd.int .i64) 3 w' w.heap.size (fun k_ => some k_ ≠ ((.slice Ao12 t555.length co12) : Value).ownBlock ∧ some k_ ≠ ((.slice Ao33 t569.length co33) : Value).ownBlock ∧ some k_ ≠ ((.slice Ao12 t555.length co12) : Value).ownBlock) (.slice Ao32 t561.length co32) t561) ∧ Aside0 (Kd.R (Kd.int .i64) 3 w' w.heap.size (fun k_ => some k_ ≠ ((.slice Ao12 t555.length co12) : Value).ownBlock ∧ some k_ ≠ ((.slice Ao32 t561.length co32) : Value).ownBlock ∧ some k_ ≠ ((.slice Ao12 t555.length co12) : Value).ownBlock) (.slice Ao33 t569.length co33) t569) ∧ Aside0 (Kd.R (Kd.int .i64) 3 w' w.heap.size (fun k_ => some k_ ≠ ((.slice Ao32 t561.length co32) : Value).ownBlock ∧ some k_ ≠ ((.slice Ao33 t569.length co33) : Value).ownBlock) (.slice Ao12 t555.length co12) t555) ∧ Aside0 (Below w.heap.size w w'))
            case atStart => exact ⟨(true), (0), (by first | rfl | (simp; done) | (simp [*]; done)), (by first | rfl | (simp; done) | (simp [*]; done)), H', ⟨Nat.le_refl _⟩, ⟨xR HO_5.out⟩, ⟨by (with_reducible repeat (first | apply Kd.R_alloc | apply Kd.R_drewN | apply Kd.R_drew)); exact Kd.R_mono HO_9.out (fun _ hk => ⟨hk.1, ⟨hk.2, hk.1⟩⟩)⟩, ⟨by (with_reducible repeat (first | apply Kd.R_alloc | apply Kd.R_drewN | apply Kd.R_drew)); exact Kd.R_mono HO_13.out (fun _ hk => ⟨hk.1, ⟨hk.2, hk.1⟩⟩)⟩, ⟨xR HO_5.out⟩, ⟨xB HB.out⟩⟩
            case round =>
             clear H'
             try clear c55b0
             try clear c57b0
             try clear c57b1
             obtain ⟨x21_6, x179_6, rfl, rfl, HA, HK6, HO_5, HO_9, HO_13, HO_177, HB⟩ := hrel
             cases gk with
             | zero => exact absurd HA.out (by simp [laws_FnCombsWrap.l2])
             | succ k6 =>
              have H := HA.out
              clear HA
              simp only [laws_FnCombsWrap.l2] at H
              by_cases c59 : x179_6 < (t555.length : Int)
              ·as_aux_lemma =>
                 rw [if_pos c59] at H
                 have c59b0 : decide (x179_6 < (t555.length : Int)) = true := decide_eq_true c59
                 clear c59
                 by_cases c60 : 0 ≤ x179_6
                 rotate_left
                 ·rw [if_neg c60] at H
                  exact absurd H (by simp)
                 rw [if_pos c60] at H
                 have c60b0 : decide (0 ≤ x179_6) = true := decide_eq_true c60
                 clear c60
                 by_cases c61 : x179_6 < (t555.length : Int)
                 rotate_left
                 ·rw [if_neg c61] at H
                  exact absurd H (by simp)
                 rw [if_pos c61] at H
                 have c61b0 : decide (x179_6 < (t555.length : Int)) = true := decide_eq_true c61
                 clear c61
                 by_cases c62 : x21_6 = true
                 rotate_left
                 ·as_aux_lemma =>
                   replace c62 := Bool.eq_false_iff.mpr c62
                   subst c62
                   have H1 := H
                   rw [if_neg (show ¬ (false = true) by decide)] at H1
                   clear H
                   have H := H1
                   clear H1
                   have H' := Aside0.mk H
                   clear H
                   have p588 : 0 ≤ (x179_6 : Int) := of_decide_eq_true (by first | (with_reducible assumption) | assumption)
                   have q588 : x179_6 < (t555.length : Int) := of_decide_eq_true (by first | (with_reducible assumption) | assumption)
                   obtain ⟨ad588, e588, hx588_0⟩ := Kd.at_int (Kd.R_reads' HO_177.out).2.2 x179_6 p588 q588
                   cases e588
                   replace p588 := eq_true p588
                   replace q588 := eq_true q588
                   go_wp2
                   repeat (go_quiet (fail); try go_wp2)
                   go_roundg k6
                   case measure => have := HJ9.out; have := HJ26.out; have := HK3.out; have := HJ40.out; have := HK5.out; have := HK6.out; omega
                   case rel => exact ⟨(false), (wrap64 (x179_6 + 1)), (by first | rfl | (simp; done) | (simp [*]; done)), (by first | rfl | (simp; done) | (simp [*]; done)), H', ⟨by have := HJ9.out; have := HJ26.out; have := HK3.out; have := HJ40.out; have := HK5.out; have := HK6.out; omega⟩, ⟨xR HO_5.out⟩, ⟨xR HO_9.out⟩, ⟨xR HO_13.out⟩, ⟨xR HO_177.out⟩, ⟨xB HB.out⟩⟩
                 as_aux_lemma =>
                  subst c62
                  have H1 := H
                  rw [if_pos rfl] at H1
                  clear H
                  have H := H1
                  clear H1
                  by_cases c63 : (rd t555 x179_6) ≥ (wrap64 (-(ji58)))
                  rotate_left
                  ·as_aux_lemma =>
                     rw [if_neg c63] at H
                     have c63b0 : decide ((wrap64 (-(ji58))) ≤ (rd t555 x179_6)) = false := decide_eq_false c63
                     clear c63
                     have H' := Aside0.mk H
                     clear H
                     have p588 : 0 ≤ (x179_6 : Int) := of_decide_eq_true (by first | (with_reducible assumption) | assumption)
                     have q588 : x179_6 < (t555.length : Int) := of_decide_eq_true (by first | (with_reducible assumption) | assumption)
                     obtain ⟨ad588, e588, hx588_0⟩ := Kd.at_int (Kd.R_reads' HO_177.out).2.2 x179_6 p588 q588
                     cases e588
                     replace p588 := eq_true p588
                     replace q588 := eq_true q588
                     go_wp2
                     repeat (go_quiet (fail); try go_wp2)
                     go_roundg k6
                     case measure => have := HJ9.out; have := HJ26.out; have := HK3.out; have := HJ40.out; have := HK5.out; have := HK6.out; omega
                     case rel => exact ⟨(false), (wrap64 (x179_6 + 1)), (by first | rfl | (simp; done) | (simp [*]; done)), (by first | rfl | (simp; done) | (simp [*]; done)), H', ⟨by have := HJ9.out; have := HJ26.out; have := HK3.out; have := HJ40.out; have := HK5.out; have := HK6.out; omega⟩, ⟨xR HO_5.out⟩, ⟨xR HO_9.out⟩, ⟨xR HO_13.out⟩, ⟨xR HO_177.out⟩, ⟨xB HB.out⟩⟩
                  rw [if_pos c63] at H
                  have c63b0 : decide ((wrap64 (-(ji58))) ≤ (rd t555 x179_6)) = true := decide_eq_true c63
                  clear c63
                  have H' := Aside0.mk H
                  clear H
                  have p588 : 0 ≤ (x179_6 : Int) := of_decide_eq_true (by first | (with_reducible assumption) | assumption)
                  have q588 : x179_6 < (t555.length : Int) := of_decide_eq_true (by first | (with_reducible assumption) | assumption)
                  obtain ⟨ad588, e588, hx588_0⟩ := Kd.at_int (Kd.R_reads' HO_177.out).2.2 x179_6 p588 q588
                  cases e588
                  replace p588 := eq_true p588
                  replace q588 := eq_true q588
                  go_wp2
                  repeat (go_quiet (fail); try go_wp2)
                  go_roundg k6
                  case measure => have := HJ9.out; have := HJ26.out; have := HK3.out; have := HJ40.out; have := HK5.out; have := HK6.out; omega
                  case rel => exact ⟨(decide ((rd t555 x179_6) < (wrap64 (-(wrap64 (-(ji58))))))), (wrap64 (x179_6 + 1)), (by first | rfl | (simp; done) | (simp only [← hji58] <;> (first | rfl | simp)) | (simp [*]; done)), (by first | rfl | (simp; done) | (simp [*]; done)), H', ⟨by have := HJ9.out; have := HJ26.out; have := HK3.out; have := HJ40.out; have := HK5.out; have := HK6.out; omega⟩, ⟨xR HO_5.out⟩, ⟨xR HO_9.out⟩, ⟨xR HO_13.out⟩, ⟨xR HO_177.out⟩, ⟨xB HB.out⟩⟩
              rw [if_neg c59] at H
              have c59b0 : decide (x179_6 < (t555.length : Int)) = false := decide_eq_false c59
              clear c59
              by_cases c64 : x21_6 = true
              rotate_left
              ·as_aux_lemma =>
                replace c64 := Bool.eq_false_iff.mpr c64
                subst c64
                have H1 := H
                rw [if_neg (show ¬ (false = true) by decide)] at H1
                clear H
                have H := H1
                clear H1
                have H' := Aside0.mk H
                clear H
                go_wp2
                repeat (go_quiet (fail); try go_wp2)
                go_roundg k6
                case measure => have := HJ9.out; have := HJ26.out; have := HK3.out; have := HJ40.out; have := HK5.out; have := HK6.out; omega
                case rel => exact ⟨(wrap64 (x22_5 + 1)), (by first | rfl | (simp; done) | (simp [*]; done)), H', ⟨by have := HJ9.out; have := HJ26.out; have := HK3.out; have := HJ40.out; have := HK5.out; have := HK6.out; omega⟩, ⟨xR HO_5.out⟩, ⟨by (with_reducible repeat (first | apply Kd.R_alloc | apply Kd.R_drewN | apply Kd.R_drew)); exact Kd.R_mono HO_9.out (fun _ hk => ⟨hk.1, hk.2.1⟩)⟩, ⟨by (with_reducible repeat (first | apply Kd.R_alloc | apply Kd.R_drewN | apply Kd.R_drew)); exact Kd.R_mono HO_13.out (fun _ hk => ⟨hk.1, hk.2.1⟩)⟩, ⟨xB HB.out⟩⟩
              subst c64
              have H1 := H
              rw [if_pos rfl] at H1
              clear H
              have H := H1
              clear H1
              replace H := Option.bind_eq_some_iff.mp H
              obtain ⟨⟨t589, t590⟩, A650, H⟩ := H
              (try dsimp only at H)
              have A65 := Aside0.mk A650
              clear A650
              by_cases c66 : t590 = true
              rotate_left
              ·as_aux_lemma =>
                replace c66 := Bool.eq_false_iff.mpr c66
                subst c66
                have H1 := H
                rw [if_neg (show ¬ (false = true) by decide)] at H1
                clear H
                have H := H1
                clear H1
                have H' := Aside0.mk H
                clear H
                go_wp2_with (first | (go_at_call 129; (with_reducible refine (impl_BitsForComb.calls k6 x22_5 t557 t558 t589 false _ A65.out).mono ?_); rintro e w72 ⟨rfl, hb⟩; have n0_ := Aside0.mk (Kd.R_below (xR HO_5.out) hb); have n1_ := Aside0.mk (Kd.R_below (xR HO_9.out) hb); have n2_ := Aside0.mk (Kd.R_below (xR HO_13.out) hb); have n3_ := Aside0.mk (Kd.R_below (xR HO_177.out) hb); have n4_ := Aside0.mk (below_step (xB HB.out) hb); clear HO_5; clear HO_9; clear HO_13; clear HO_177; clear HB; have HO_5 := n0_; have HO_9 := n1_; have HO_13 := n2_; have HO_177 := n3_; have HB := n4_; clear n0_ n1_ n2_ n3_ n4_; (try clear hb); (try clear hb2); (try clear hk); (try clear hi)))
                repeat (go_quiet (first | (go_at_call 129; (with_reducible refine (impl_BitsForComb.calls k6 x22_5 t557 t558 t589 false _ A65.out).mono ?_); rintro e w72 ⟨rfl, hb⟩; have n0_ := Aside0.mk (Kd.R_below (xR HO_5.out) hb); have n1_ := Aside0.mk (Kd.R_below (xR HO_9.out) hb); have n2_ := Aside0.mk (Kd.R_below (xR HO_13.out) hb); have n3_ := Aside0.mk (Kd.R_below (xR HO_177.out) hb); have n4_ := Aside0.mk (below_step (xB HB.out) hb); clear HO_5; clear HO_9; clear HO_13; clear HO_177; clear HB; have HO_5 := n0_; have HO_9 := n1_; have HO_13 := n2_; have HO_177 := n3_; have HB := n4_; clear n0_ n1_ n2_ n3_ n4_; (try clear hb); (try clear hb2); (try clear hk); (try clear hi))); try go_wp2_with (first | (go_at_call 129; (with_reducible refine (impl_BitsForComb.calls k6 x22_5 t557 t558 t589 false _ A65.out).mono ?_); rintro e w72 ⟨rfl, hb⟩; have n0_ := Aside0.mk (Kd.R_below (xR HO_5.out) hb); have n1_ := Aside0.mk (Kd.R_below (xR HO_9.out) hb); have n2_ := Aside0.mk (Kd.R_below (xR HO_13.out) hb); have n3_ := Aside0.mk (Kd.R_below (xR HO_177.out) hb); have n4_ := Aside0.mk (below_step (xB HB.out) hb); clear HO_5; clear HO_9; clear HO_13; clear HO_177; clear HB; have HO_5 := n0_; have HO_9 := n1_; have HO_13 := n2_; have HO_177 := n3_; have HB := n4_; clear n0_ n1_ n2_ n3_ n4_; (try clear hb); (try clear hb2); (try clear hk); (try clear hi))))
                go_meet
                case rel => exact ⟨_, H', ⟨by have := HJ9.out; have := HJ26.out; have := HK3.out; have := HJ40.out; have := HK5.out; have := HK6.out; first | omega | exact Nat.le_refl _⟩, ⟨xB HB.out⟩⟩
              as_aux_lemma =>
               subst c66
               have H1 := H
               rw [if_pos rfl] at H1
               clear H
               have H := H1
               clear H1
               by_cases c67 : t556 ≥ t589
               rotate_left
               ·as_aux_lemma =>
                  rw [if_neg c67] at H
                  have c67b0 : decide (t589 ≤ t556) = false := decide_eq_false c67
                  clear c67
                  have H' := Aside0.mk H
                  clear H
                  go_wp2_with (first | (go_at_call 129; (with_reducible refine (impl_BitsForComb.calls k6 x22_5 t557 t558 t589 true _ A65.out).mono ?_); rintro e w71 ⟨rfl, hb⟩; have n0_ := Aside0.mk (Kd.R_below (xR HO_5.out) hb); have n1_ := Aside0.mk (Kd.R_below (xR HO_9.out) hb); have n2_ := Aside0.mk (Kd.R_below (xR HO_13.out) hb); have n3_ := Aside0.mk (Kd.R_below (xR HO_177.out) hb); have n4_ := Aside0.mk (below_step (xB HB.out) hb); clear HO_5; clear HO_9; clear HO_13; clear HO_177; clear HB; have HO_5 := n0_; have HO_9 := n1_; have HO_13 := n2_; have HO_177 := n3_; have HB := n4_; clear n0_ n1_ n2_ n3_ n4_; (try clear hb); (try clear hb2); (try clear hk); (try clear hi)))
                  repeat (go_quiet (first | (go_at_call 129; (with_reducible refine (impl_BitsForComb.calls k6 x22_5 t557 t558 t589 true _ A65.out).mono ?_); rintro e w71 ⟨rfl, hb⟩; have n0_ := Aside0.mk (Kd.R_below (xR HO_5.out) hb); have n1_ := Aside0.mk (Kd.R_below (xR HO_9.out) hb); have n2_ := Aside0.mk (Kd.R_below (xR HO_13.out) hb); have n3_ := Aside0.mk (Kd.R_below (xR HO_177.out) hb); have n4_ := Aside0.mk (below_step (xB HB.out) hb); clear HO_5; clear HO_9; clear HO_13; clear HO_177; clear HB; have HO_5 := n0_; have HO_9 := n1_; have HO_13 := n2_; have HO_177 := n3_; have HB := n4_; clear n0_ n1_ n2_ n3_ n4_; (try clear hb); (try clear hb2); (try clear hk); (try clear hi))); try go_wp2_with (first | (go_at_call 129; (with_reducible refine (impl_BitsForComb.calls k6 x22_5 t557 t558 t589 true _ A65.out).mono ?_); rintro e w71 ⟨rfl, hb⟩; have n0_ := Aside0.mk (Kd.R_below (xR HO_5.out) hb); have n1_ := Aside0.mk (Kd.R_below (xR HO_9.out) hb); have n2_ := Aside0.mk (Kd.R_below (xR HO_13.out) hb); have n3_ := Aside0.mk (Kd.R_below (xR HO_177.out) hb); have n4_ := Aside0.mk (below_step (xB HB.out) hb); clear HO_5; clear HO_9; clear HO_13; clear HO_177; clear HB; have HO_5 := n0_; have HO_9 := n1_; have HO_13 := n2_; have HO_177 := n3_; have HB := n4_; clear n0_ n1_ n2_ n3_ n4_; (try clear hb); (try clear hb2); (try clear hk); (try clear hi))))
                  go_meet
                  case rel => exact ⟨_, H', ⟨by have := HJ9.out; have := HJ26.out; have := HK3.out; have := HJ40.out; have := HK5.out; have := HK6.out; first | omega | exact Nat.le_refl _⟩, ⟨xB HB.out⟩⟩
               rw [if_pos c67] at H
               have c67b0 : decide (t589 ≤ t556) = true := decide_eq_true c67
               clear c67
               replace H := Option.bind_eq_some_iff.mp H
               obtain ⟨t591, A680, H⟩ := H
               (try dsimp only at H)
               have A68 := Aside0.mk A680
               clear A680
               by_cases c69 : t591 = true
               rotate_left
               ·replace c69 := Bool.eq_false_iff.mpr c69
                subst c69
                have H1 := H
                rw [if_neg (show ¬ (false = true) by decide)] at H1
                clear H
                have H := H1
                clear H1
                exact absurd ((Option.some.inj H).trans HRT.out) (by decide)
               subst c69
               have H1 := H
               rw [if_pos rfl] at H1
               clear H
               have H := H1
               clear H1
               have H' := Aside0.mk H
               clear H
               go_wp2_with (first | (go_at_call 129; (with_reducible refine (impl_BitsForComb.calls k6 x22_5 t557 t558 t589 true _ A65.out).mono ?_); rintro e w70 ⟨rfl, hb⟩; have n0_ := Aside0.mk (Kd.R_below (xR HO_5.out) hb); have n1_ := Aside0.mk (Kd.R_below (xR HO_9.out) hb); have n2_ := Aside0.mk (Kd.R_below (xR HO_13.out) hb); have n3_ := Aside0.mk (Kd.R_below (xR HO_177.out) hb); have n4_ := Aside0.mk (below_step (xB HB.out) hb); clear HO_5; clear HO_9; clear HO_13; clear HO_177; clear HB; have HO_5 := n0_; have HO_9 := n1_; have HO_13 := n2_; have HO_177 := n3_; have HB := n4_; clear n0_ n1_ n2_ n3_ n4_; (try clear hb); (try clear hb2); (try clear hk); (try clear hi)) | (go_at_call 21; (with_reducible refine (laws_iSame.calls k6 _ _ t561 _ _ t569 true _ ?side1 ?side2 ?side3 ?side4 A68.out).mono ?_); (case side1 => exact xC ((Kd.R_reads' HO_9.out).2.2)); (case side2 => exact (Kd.R_reads' HO_9.out).2.1); (case side3 => exact xC ((Kd.R_reads' HO_13.out).2.2)); (case side4 => exact (Kd.R_reads' HO_13.out).2.1); rintro e w' ⟨rfl, ⟨nd, rfl⟩⟩; (try exact xD)))
               repeat (go_quiet (first | (go_at_call 129; (with_reducible refine (impl_BitsForComb.calls k6 x22_5 t557 t558 t589 true _ A65.out).mono ?_); rintro e w70 ⟨rfl, hb⟩; have n0_ := Aside0.mk (Kd.R_below (xR HO_5.out) hb); have n1_ := Aside0.mk (Kd.R_below (xR HO_9.out) hb); have n2_ := Aside0.mk (Kd.R_below (xR HO_13.out) hb); have n3_ := Aside0.mk (Kd.R_below (xR HO_177.out) hb); have n4_ := Aside0.mk (below_step (xB HB.out) hb); clear HO_5; clear HO_9; clear HO_13; clear HO_177; clear HB; have HO_5 := n0_; have HO_9 := n1_; have HO_13 := n2_; have HO_177 := n3_; have HB := n4_; clear n0_ n1_ n2_ n3_ n4_; (try clear hb); (try clear hb2); (try clear hk); (try clear hi)) | (go_at_call 21; (with_reducible refine (laws_iSame.calls k6 _ _ t561 _ _ t569 true _ ?side1 ?side2 ?side3 ?side4 A68.out).mono ?_); (case side1 => exact xC ((Kd.R_reads' HO_9.out).2.2)); (case side2 => exact (Kd.R_reads' HO_9.out).2.1); (case side3 => exact xC ((Kd.R_reads' HO_13.out).2.2)); (case side4 => exact (Kd.R_reads' HO_13.out).2.1); rintro e w' ⟨rfl, ⟨nd, rfl⟩⟩; (try exact xD))); try go_wp2_with (first | (go_at_call 129; (with_reducible refine (impl_BitsForComb.calls k6 x22_5 t557 t558 t589 true _ A65.out).mono ?_); rintro e w70 ⟨rfl, hb⟩; have n0_ := Aside0.mk (Kd.R_below (xR HO_5.out) hb); have n1_ := Aside0.mk (Kd.R_below (xR HO_9.out) hb); have n2_ := Aside0.mk (Kd.R_below (xR HO_13.out) hb); have n3_ := Aside0.mk (Kd.R_below (xR HO_177.out) hb); have n4_ := Aside0.mk (below_step (xB HB.out) hb); clear HO_5; clear HO_9; clear HO_13; clear HO_177; clear HB; have HO_5 := n0_; have HO_9 := n1_; have HO_13 := n2_; have HO_177 := n3_; have HB := n4_; clear n0_ n1_ n2_ n3_ n4_; (try clear hb); (try clear hb2); (try clear hk); (try clear hi)) | (go_at_call 21; (with_reducible refine (laws_iSame.calls k6 _ _ t561 _ _ t569 true _ ?side1 ?side2 ?side3 ?side4 A68.out).mono ?_); (case side1 => exact xC ((Kd.R_reads' HO_9.out).2.2)); (case side2 => exact (Kd.R_reads' HO_9.out).2.1); (case side3 => exact xC ((Kd.R_reads' HO_13.out).2.2)); (case side4 => exact (Kd.R_reads' HO_13.out).2.1); rintro e w' ⟨rfl, ⟨nd, rfl⟩⟩; (try exact xD))))
               go_meet
               case rel => exact ⟨_, H', ⟨by have := HJ9.out; have := HJ26.out; have := HK3.out; have := HJ40.out; have := HK5.out; have := HK6.out; first | omega | exact Nat.le_refl _⟩, ⟨xB HB.out⟩⟩
     case rest => as_aux_lemma =>
      clear HC29
      obtain ⟨kq, HA, HJ28, HB⟩ := hcut
      cases kq with
      | zero => exact absurd HA.out (by simp [laws_FnCombsWrap.j6])
      | succ kj28 =>
       have H := HA.out
       clear HA
       simp only [laws_FnCombsWrap.j6] at H
       replace H := Option.bind_eq_some_iff.mp H
       obtain ⟨⟨t592, t593, t594, t595⟩, A730, H⟩ := H
       (try dsimp only at H)
       have A73 := Aside0.mk A730
       clear A730
       replace H := Option.bind_eq_some_iff.mp H
       obtain ⟨⟨t598, t599⟩, A740, H⟩ := H
       (try dsimp only at H)
       have A74 := Aside0.mk A740
       clear A740
       replace H := Option.bind_eq_some_iff.mp H
       obtain ⟨⟨t602, t605⟩, A750, H⟩ := H
       (try dsimp only at H)
       have A75 := Aside0.mk A750
       clear A750
       replace H := Option.bind_eq_some_iff.mp H
       obtain ⟨⟨t606, t607⟩, A760, H⟩ := H
       (try dsimp only at H)
       have A76 := Aside0.mk A760
       clear A760
       replace H := Option.bind_eq_some_iff.mp H
       obtain ⟨⟨t610, t611⟩, A770, H⟩ := H
       (try dsimp only at H)
       have A77 := Aside0.mk A770
       clear A770
       have HC78 := Aside0.mk H
       clear H
       go_upto_region 42 with (first | (go_at_call 130; (with_reducible refine (spec_DrawWrappedRise.calls kj28 _ _ l1 t592 t593 t594 t595 _ ?side1 ?side2 A73.out).mono ?_); (case side1 => exact xC (Kd.C_below HR1.out HB.out)); (case side2 => exact HC1.out); rintro e w79 ⟨v596, rfl, ho0, hb⟩; have n0_ := Aside0.mk (Kd.R_lower ho0 (below_size (xB HB.out))); have n1_ := Aside0.mk (below_step (xB HB.out) hb); clear HB; have HO597 := n0_; have HB := n1_; clear n0_ n1_; (try clear hb); (try clear hb2); (try clear hk); (try clear hi); (try clear ho0); obtain ⟨Ao80, co80, eo80⟩ := Kd.R_slice HO597.out; subst eo80) | (go_at_call 131; (with_reducible refine (impl_WrappedRise.calls kj28 _ _ t592 t593 t594 t595 t598 t599 _ ?side1 ?side2 A74.out).mono ?_); (case side1 => exact xC ((Kd.R_reads' HO597.out).2.2)); (case side2 => exact (Kd.R_reads' HO597.out).2.1); rintro e w81 ⟨v600, rfl, ho0, hb⟩; have n0_ := Aside0.mk (Kd.R_elder' (xR HO597.out) (Kd.R_base ho0) hb); have n1_ := Aside0.mk (Kd.R_lower (Kd.R_new' ho0 (Kd.R_lt (xR HO597.out))) (below_size (xB HB.out))); have n2_ := Aside0.mk (below_step (xB HB.out) hb); clear HO597; clear HB; have HO597 := n0_; have HO601 := n1_; have HB := n2_; clear n0_ n1_ n2_; (try clear hb); (try clear hb2); (try clear hk); (try clear hi); (try clear ho0)) | (go_at_call 132; (with_reducible refine (spec_WrappedRise.calls kj28 (fun k_ => some k_ = (.slice Ao80 t592.length co80 : Value).ownBlock) _ _ t592 t593 t594 t595 t602 t605 _ ?side1 A75.out).mono ?_); (case side1 => exact Kd.R_V (Kd.R_tight rfl (HO597.out))); rintro e w82 ⟨v603, rfl, ho0, hb⟩; have n0_ := Aside0.mk (Kd.R_below (xR HO597.out) hb); have n1_ := Aside0.mk (Kd.R_below (xR HO601.out) hb); have n2_ := Aside0.mk (Kd.V_lower (Kd.V_mono (ok' := fun k_ => some k_ ≠ (v600 : Value).ownBlock) ho0 (fun k_ hk_ => Or.elim hk_ (fun hs_ => ((HO597.out).1 k_ hs_.symm).2) (fun hn_ => (Kd.fresh' (Kd.R_lt (xR HO601.out)) k_ hn_)))) (below_size (xB HB.out))); have n3_ := Aside0.mk (below_step (xB HB.out) hb); clear HO597; clear HO601; clear HB; have HO597 := n0_; have HO601 := n1_; have HO604 := n2_; have HB := n3_; clear n0_ n1_ n2_ n3_; (try clear hb); (try clear hb2); (try clear hk); (try clear hi); (try clear ho0)) | (go_at_call 133; (with_reducible refine (impl_ExactRise.calls kj28 _ _ t592 t594 t595 t606 t607 _ ?side1 ?side2 A76.out).mono ?_); (case side1 => exact xC ((Kd.R_reads' HO597.out).2.2)); (case side2 => exact (Kd.R_reads' HO597.out).2.1); rintro e w83 ⟨v608, rfl, ho0, hb⟩; have n0_ := Aside0.mk (Kd.R_elder' (xR HO597.out) (Kd.R_base ho0) hb); have n1_ := Aside0.mk (Kd.R_elder' (xR HO601.out) (Kd.R_base ho0) hb); have n2_ := Aside0.mk (Kd.V_elder' (by (with_reducible repeat (first | apply Kd.V_alloc | apply Kd.V_drewN | apply Kd.V_drew)); exact HO604.out) (Kd.R_base ho0) hb); have n3_ := Aside0.mk (Kd.R_lower (Kd.R_new' (Kd.R_new' ho0 (Kd.R_lt (xR HO597.out))) (Kd.R_lt (xR HO601.out))) (below_size (xB HB.out))); have n4_ := Aside0.mk (below_step (xB HB.out) hb); clear HO597; clear HO601; clear HO604; clear HB; have HO597 := n0_; have HO601 := n1_; have HO604 := n2_; have HO609 := n3_; have HB := n4_; clear n0_ n1_ n2_ n3_ n4_; (try clear hb); (try clear hb2); (try clear hk); (try clear hi); (try clear ho0)) | (go_at_call 134; (with_reducible refine (spec_ExactRise.calls kj28 _ _ t592 t594 t595 t610 t611 _ ?side1 ?side2 A77.out).mono ?_); (case side1 => exact xC ((Kd.R_reads' HO597.out).2.2)); (case side2 => exact (Kd.R_reads' HO597.out).2.1); rintro e w84 ⟨v612, rfl, ho0, hb⟩; have n0_ := Aside0.mk (Kd.R_elder' (xR HO597.out) (Kd.R_base ho0) hb); have n1_ := Aside0.mk (Kd.R_elder' (xR HO601.out) (Kd.R_base ho0) hb); have n2_ := Aside0.mk (Kd.V_elder' (by (with_reducible repeat (first | apply Kd.V_alloc | apply Kd.V_drewN | apply Kd.V_drew)); exact HO604.out) (Kd.R_base ho0) hb); have n3_ := Aside0.mk (Kd.R_elder' (xR HO609.out) (Kd.R_base ho0) hb); have n4_ := Aside0.mk (Kd.R_lower (Kd.R_new' (Kd.R_new' (Kd.R_new' ho0 (Kd.R_lt (xR HO597.out))) (Kd.R_lt (xR HO601.out))) (Kd.R_lt (xR HO609.out))) (below_size (xB HB.out))); have n5_ := Aside0.mk (below_step (xB HB.out) hb); clear HO597; clear HO601; clear HO604; clear HO609; clear HB; have HO597 := n0_; have HO601 := n1_; have HO604 := n2_; have HO609 := n3_; have HO613 := n4_; have HB := n5_; clear n0_ n1_ n2_ n3_ n4_ n5_; (try clear hb); (try clear hb2); (try clear hk); (try clear hi); (try clear ho0)))
       repeat (go_quiet (first | (go_at_call 130; (with_reducible refine (spec_DrawWrappedRise.calls kj28 _ _ l1 t592 t593 t594 t595 _ ?side1 ?side2 A73.out).mono ?_); (case side1 => exact xC (Kd.C_below HR1.out HB.out)); (case side2 => exact HC1.out); rintro e w79 ⟨v596, rfl, ho0, hb⟩; have n0_ := Aside0.mk (Kd.R_lower ho0 (below_size (xB HB.out))); have n1_ := Aside0.mk (below_step (xB HB.out) hb); clear HB; have HO597 := n0_; have HB := n1_; clear n0_ n1_; (try clear hb); (try clear hb2); (try clear hk); (try clear hi); (try clear ho0); obtain ⟨Ao80, co80, eo80⟩ := Kd.R_slice HO597.out; subst eo80) | (go_at_call 131; (with_reducible refine (impl_WrappedRise.calls kj28 _ _ t592 t593 t594 t595 t598 t599 _ ?side1 ?side2 A74.out).mono ?_); (case side1 => exact xC ((Kd.R_reads' HO597.out).2.2)); (case side2 => exact (Kd.R_reads' HO597.out).2.1); rintro e w81 ⟨v600, rfl, ho0, hb⟩; have n0_ := Aside0.mk (Kd.R_elder' (xR HO597.out) (Kd.R_base ho0) hb); have n1_ := Aside0.mk (Kd.R_lower (Kd.R_new' ho0 (Kd.R_lt (xR HO597.out))) (below_size (xB HB.out))); have n2_ := Aside0.mk (below_step (xB HB.out) hb); clear HO597; clear HB; have HO597 := n0_; have HO601 := n1_; have HB := n2_; clear n0_ n1_ n2_; (try clear hb); (try clear hb2); (try clear hk); (try clear hi); (try clear ho0)) | (go_at_call 132; (with_reducible refine (spec_WrappedRise.calls kj28 (fun k_ => some k_ = (.slice Ao80 t592.length co80 : Value).ownBlock) _ _ t592 t593 t594 t595 t602 t605 _ ?side1 A75.out).mono ?_); (case side1 => exact Kd.R_V (Kd.R_tight rfl (HO597.out))); rintro e w82 ⟨v603, rfl, ho0, hb⟩; have n0_ := Aside0.mk (Kd.R_below (xR HO597.out) hb); have n1_ := Aside0.mk (Kd.R_below (xR HO601.out) hb); have n2_ := Aside0.mk (Kd.V_lower (Kd.V_mono (ok' := fun k_ => some k_ ≠ (v600 : Value).ownBlock) ho0 (fun k_ hk_ => Or.elim hk_ (fun hs_ => ((HO597.out).1 k_ hs_.symm).2) (fun hn_ => (Kd.fresh' (Kd.R_lt (xR HO601.out)) k_ hn_)))) (below_size (xB HB.out))); have n3_ := Aside0.mk (below_step (xB HB.out) hb); clear HO597; clear HO601; clear HB; have HO597 := n0_; have HO601 := n1_; have HO604 := n2_; have HB := n3_; clear n0_ n1_ n2_ n3_; (try clear hb); (try clear hb2); (try clear hk); (try clear hi); (try clear ho0)) | (go_at_call 133; (with_reducible refine (impl_ExactRise.calls kj28 _ _ t592 t594 t595 t606 t607 _ ?side1 ?side2 A76.out).mono ?_); (case side1 => exact xC ((Kd.R_reads' HO597.out).2.2)); (case side2 => exact (Kd.R_reads' HO597.out).2.1); rintro e w83 ⟨v608, rfl, ho0, hb⟩; have n0_ := Aside0.mk (Kd.R_elder' (xR HO597.out) (Kd.R_base ho0) hb); have n1_ := Aside0.mk (Kd.R_elder' (xR HO601.out) (Kd.R_base ho0) hb); have n2_ := Aside0.mk (Kd.V_elder' (by (with_reducible repeat (first | apply Kd.V_alloc | apply Kd.V_drewN | apply Kd.V_drew)); exact HO604.out) (Kd.R_base ho0) hb); have n3_ := Aside0.mk (Kd.R_lower (Kd.R_new' (Kd.R_new' ho0 (Kd.R_lt (xR HO597.out))) (Kd.R_lt (xR HO601.out))) (below_size (xB HB.out))); have n4_ := Aside0.mk (below_step (xB HB.out) hb); clear HO597; clear HO601; clear HO604; clear HB; have HO597 := n0_; have HO601 := n1_; have HO604 := n2_; have HO609 := n3_; have HB := n4_; clear n0_ n1_ n2_ n3_ n4_; (try clear hb); (try clear hb2); (try clear hk); (try clear hi); (try clear ho0)) | (go_at_call 134; (with_reducible refine (spec_ExactRise.calls kj28 _ _ t592 t594 t595 t610 t611 _ ?side1 ?side2 A77.out).mono ?_); (case side1 => exact xC ((Kd.R_reads' HO597.out).2.2)); (case side2 => exact (Kd.R_reads' HO597.out).2.1); rintro e w84 ⟨v612, rfl, ho0, hb⟩; have n0_ := Aside0.mk (Kd.R_elder' (xR HO597.out) (Kd.R_base ho0) hb); have n1_ := Aside0.mk (Kd.R_elder' (xR HO601.out) (Kd.R_base ho0) hb); have n2_ := Aside0.mk (Kd.V_elder' (by (with_reducible repeat (first | apply Kd.V_alloc | apply Kd.V_drewN | apply Kd.V_drew)); exact HO604.out) (Kd.R_base ho0) hb); have n3_ := Aside0.mk (Kd.R_elder' (xR HO609.out) (Kd.R_base ho0) hb); have n4_ := Aside0.mk (Kd.R_lower (Kd.R_new' (Kd.R_new' (Kd.R_new' ho0 (Kd.R_lt (xR HO597.out))) (Kd.R_lt (xR HO601.out))) (Kd.R_lt (xR HO609.out))) (below_size (xB HB.out))); have n5_ := Aside0.mk (below_step (xB HB.out) hb); clear HO597; clear HO601; clear HO604; clear HO609; clear HB; have HO597 := n0_; have HO601 := n1_; have HO604 := n2_; have HO609 := n3_; have HO613 := n4_; have HB := n5_; clear n0_ n1_ n2_ n3_ n4_ n5_; (try clear hb); (try clear hb2); (try clear hk); (try clear hi); (try clear ho0))); go_upto_region 42 with (first | (go_at_call 130; (with_reducible refine (spec_DrawWrappedRise.calls kj28 _ _ l1 t592 t593 t594 t595 _ ?side1 ?side2 A73.out).mono ?_); (case side1 => exact xC (Kd.C_below HR1.out HB.out)); (case side2 => exact HC1.out); rintro e w79 ⟨v596, rfl, ho0, hb⟩; have n0_ := Aside0.mk (Kd.R_lower ho0 (below_size (xB HB.out))); have n1_ := Aside0.mk (below_step (xB HB.out) hb); clear HB; have HO597 := n0_; have HB := n1_; clear n0_ n1_; (try clear hb); (try clear hb2); (try clear hk); (try clear hi); (try clear ho0); obtain ⟨Ao80, co80, eo80⟩ := Kd.R_slice HO597.out; subst eo80) | (go_at_call 131; (with_reducible refine (impl_WrappedRise.calls kj28 _ _ t592 t593 t594 t595 t598 t599 _ ?side1 ?side2 A74.out).mono ?_); (case side1 => exact xC ((Kd.R_reads' HO597.out).2.2)); (case side2 => exact (Kd.R_reads' HO597.out).2.1); rintro e w81 ⟨v600, rfl, ho0, hb⟩; have n0_ := Aside0.mk (Kd.R_elder' (xR HO597.out) (Kd.R_base ho0) hb); have n1_ := Aside0.mk (Kd.R_lower (Kd.R_new' ho0 (Kd.R_lt (xR HO597.out))) (below_size (xB HB.out))); have n2_ := Aside0.mk (below_step (xB HB.out) hb); clear HO597; clear HB; have HO597 := n0_; have HO601 := n1_; have HB := n2_; clear n0_ n1_ n2_; (try clear hb); (try clear hb2); (try clear hk); (try clear hi); (try clear ho0)) | (go_at_call 132; (with_reducible refine (spec_WrappedRise.calls kj28 (fun k_ => some k_ = (.slice Ao80 t592.length co80 : Value).ownBlock) _ _ t592 t593 t594 t595 t602 t605 _ ?side1 A75.out).mono ?_); (case side1 => exact Kd.R_V (Kd.R_tight rfl (HO597.out))); rintro e w82 ⟨v603, rfl, ho0, hb⟩; have n0_ := Aside0.mk (Kd.R_below (xR HO597.out) hb); have n1_ := Aside0.mk (Kd.R_below (xR HO601.out) hb); have n2_ := Aside0.mk (Kd.V_lower (Kd.V_mono (ok' := fun k_ => some k_ ≠ (v600 : Value).ownBlock) ho0 (fun k_ hk_ => Or.elim hk_ (fun hs_ => ((HO597.out).1 k_ hs_.symm).2) (fun hn_ => (Kd.fresh' (Kd.R_lt (xR HO601.out)) k_ hn_)))) (below_size (xB HB.out))); have n3_ := Aside0.mk (below_step (xB HB.out) hb); clear HO597; clear HO601; clear HB; have HO597 := n0_; have HO601 := n1_; have HO604 := n2_; have HB := n3_; clear n0_ n1_ n2_ n3_; (try clear hb); (try clear hb2); (try clear hk); (try clear hi); (try clear ho0)) | (go_at_call 133; (with_reducible refine (impl_ExactRise.calls kj28 _ _ t592 t594 t595 t606 t607 _ ?side1 ?side2 A76.out).mono ?_); (case side1 => exact xC ((Kd.R_reads' HO597.out).2.2)); (case side2 => exact (Kd.R_reads' HO597.out).2.1); rintro e w83 ⟨v608, rfl, ho0, hb⟩; have n0_ := Aside0.mk (Kd.R_elder' (xR HO597.out) (Kd.R_base ho0) hb); have n1_ := Aside0.mk (Kd.R_elder' (xR HO601.out) (Kd.R_base ho0) hb); have n2_ := Aside0.mk (Kd.V_elder' (by (with_reducible repeat (first | apply Kd.V_alloc | apply Kd.V_drewN | apply Kd.V_drew)); exact HO604.out) (Kd.R_base ho0) hb); have n3_ := Aside0.mk (Kd.R_lower (Kd.R_new' (Kd.R_new' ho0 (Kd.R_lt (xR HO597.out))) (Kd.R_lt (xR HO601.out))) (below_size (xB HB.out))); have n4_ := Aside0.mk (below_step (xB HB.out) hb); clear HO597; clear HO601; clear HO604; clear HB; have HO597 := n0_; have HO601 := n1_; have HO604 := n2_; have HO609 := n3_; have HB := n4_; clear n0_ n1_ n2_ n3_ n4_; (try clear hb); (try clear hb2); (try clear hk); (try clear hi); (try clear ho0)) | (go_at_call 134; (with_reducible refine (spec_ExactRise.calls kj28 _ _ t592 t594 t595 t610 t611 _ ?side1 ?side2 A77.out).mono ?_); (case side1 => exact xC ((Kd.R_reads' HO597.out).2.2)); (case side2 => exact (Kd.R_reads' HO597.out).2.1); rintro e w84 ⟨v612, rfl, ho0, hb⟩; have n0_ := Aside0.mk (Kd.R_elder' (xR HO597.out) (Kd.R_base ho0) hb); have n1_ := Aside0.mk (Kd.R_elder' (xR HO601.out) (Kd.R_base ho0) hb); have n2_ := Aside0.mk (Kd.V_elder' (by (with_reducible repeat (first | apply Kd.V_alloc | apply Kd.V_drewN | apply Kd.V_drew)); exact HO604.out) (Kd.R_base ho0) hb); have n3_ := Aside0.mk (Kd.R_elder' (xR HO609.out) (Kd.R_base ho0) hb); have n4_ := Aside0.mk (Kd.R_lower (Kd.R_new' (Kd.R_new' (Kd.R_new' ho0 (Kd.R_lt (xR HO597.out))) (Kd.R_lt (xR HO601.out))) (Kd.R_lt (xR HO609.out))) (below_size (xB HB.out))); have n5_ := Aside0.mk (below_step (xB HB.out) hb); clear HO597; clear HO601; clear HO604; clear HO609; clear HB; have HO597 := n0_; have HO601 := n1_; have HO604 := n2_; have HO609 := n3_; have HO613 := n4_; have HB := n5_; clear n0_ n1_ n2_ n3_ n4_ n5_; (try clear hb); (try clear hb2); (try clear hk); (try clear hi); (try clear ho0))))
       (try simp only [Act.put, List.setIfInBounds_toArray, List.set_cons_zero, List.set_cons_succ])
       go_cut [272] (fun v272 wc => ∃ (kq : Nat) (x272_77 : Bool), v272 = .bool x272_77 ∧ Aside0 (laws_FnCombsWrap.j7 kq l1 t592 t593 t595 t598 t599 t606 t607 x272_77 = some r) ∧ Aside0 (kq ≤ kj28) ∧ Aside0 (Kd.R (Kd.int .i64) 3 wc w.heap.size (fun k_ => some k_ ≠ (v600 : Value).ownBlock ∧ some k_ ≠ (v608 : Value).ownBlock) (.slice Ao80 t592.length co80) t592) ∧ Aside0 (Kd.R (Kd.int .i64) 3 wc w.heap.size (fun k_ => some k_ ≠ ((.slice Ao80 t592.length co80) : Value).ownBlock ∧ some k_ ≠ (v608 : Value).ownBlock) v600 t598) ∧ Aside0 (Kd.R (Kd.int .i64) 3 wc w.heap.size (fun k_ => some k_ ≠ ((.slice Ao80 t592.length co80) : Value).ownBlock ∧ some k_ ≠ (v600 : Value).ownBlock) v608 t606) ∧ Aside0 (Below w.heap.size w wc))
       case first => as_aux_lemma =>
        have H := HC78.out
        clear HC78
        by_cases c85 : (t599 != t605) = true
        ·as_aux_lemma =>
          rw [if_pos c85] at H
          have c85b0 : (t599 != t605) = true := c85
          (try (have c85b1 : decide (t599 = t605) = false := by simpa using c85))
          (try (have c85b2 : (t599 == t605) = false := by simpa using c85))
          (try (have c85b3 : ¬ (t599 = t605) := by simpa using c85))
          clear c85
          (first | rw [c85b0] | (simp only [i64_w, i32_w]; rw [c85b0]) | skip)
          exact absurd H (by have hr_ := HRT.out; cases kj28 <;> simp [laws_FnCombsWrap.j7, hr_])
        as_aux_lemma =>
         rw [if_neg c85] at H
         have c85b0 : (t599 != t605) = false := by simpa using c85
         (try (have c85b1 : decide (t599 = t605) = true := by simpa using c85))
         (try (have c85b2 : (t599 == t605) = true := by simpa using c85))
         clear c85
         (first | rw [c85b0] | (simp only [i64_w, i32_w]; rw [c85b0]) | skip)
         replace H := Option.bind_eq_some_iff.mp H
         obtain ⟨t614, A860, H⟩ := H
         (try dsimp only at H)
         have A86 := Aside0.mk A860
         clear A860
         by_cases c87 : t614 = true
         rotate_left
         ·replace c87 := Bool.eq_false_iff.mpr c87
          subst c87
          have H1 := H
          rw [if_neg (show ¬ (false = true) by decide)] at H1
          clear H
          have H := H1
          clear H1
          exact absurd H (by have hr_ := HRT.out; cases kj28 <;> simp [laws_FnCombsWrap.j7, hr_])
         subst c87
         have H1 := H
         rw [if_pos rfl] at H1
         clear H
         have H := H1
         clear H1
         by_cases c88 : (t607 != t611) = true
         ·rw [if_pos c88] at H
          have c88b0 : (t607 != t611) = true := c88
          (try (have c88b1 : decide (t607 = t611) = false := by simpa using c88))
          (try (have c88b2 : (t607 == t611) = false := by simpa using c88))
          (try (have c88b3 : ¬ (t607 = t611) := by simpa using c88))
          clear c88
          exact absurd H (by have hr_ := HRT.out; cases kj28 <;> simp [laws_FnCombsWrap.j7, hr_])
         rw [if_neg c88] at H
         have c88b0 : (t607 != t611) = false := by simpa using c88
         (try (have c88b1 : decide (t607 = t611) = true := by simpa using c88))
         (try (have c88b2 : (t607 == t611) = true := by simpa using c88))
         clear c88
         replace H := Option.bind_eq_some_iff.mp H
         obtain ⟨t615, A890, H⟩ := H
         (try dsimp only at H)
         have A89 := Aside0.mk A890
         clear A890
         have H' := Aside0.mk H
         clear H
         obtain ⟨Ao90, co90, eo90⟩ := Kd.R_slice HO601.out
         subst eo90
         obtain ⟨Ao91, co91, eo91⟩ := Kd.V_slice HO604.out
         subst eo91
         go_wp2_with (first | (go_at_call 21; (with_reducible refine (laws_iSame.calls kj28 _ _ t598 _ _ t602 true _ ?side1 ?side2 ?side3 ?side4 A86.out).mono ?_); (case side1 => exact xC ((Kd.R_reads' HO601.out).2.2)); (case side2 => exact (Kd.R_reads' HO601.out).2.1); (case side3 => exact xC ((Kd.V_reads' HO604.out).2.2)); (case side4 => exact (Kd.V_reads' HO604.out).2.1); rintro e w' ⟨rfl, ⟨nd, rfl⟩⟩; (try exact xD); obtain ⟨Ao92, co92, eo92⟩ := Kd.R_slice HO609.out; subst eo92; obtain ⟨Ao93, co93, eo93⟩ := Kd.R_slice HO613.out; subst eo93) | (go_at_call 21; (with_reducible refine (laws_iSame.calls kj28 _ _ t606 _ _ t610 t615 _ ?side1 ?side2 ?side3 ?side4 A89.out).mono ?_); (case side1 => exact xC ((Kd.R_reads' HO609.out).2.2)); (case side2 => exact (Kd.R_reads' HO609.out).2.1); (case side3 => exact xC ((Kd.R_reads' HO613.out).2.2)); (case side4 => exact (Kd.R_reads' HO613.out).2.1); rintro e w' ⟨rfl, ⟨nd, rfl⟩⟩; (try exact xD)))
         repeat (go_quiet (first | (go_at_call 21; (with_reducible refine (laws_iSame.calls kj28 _ _ t598 _ _ t602 true _ ?side1 ?side2 ?side3 ?side4 A86.out).mono ?_); (case side1 => exact xC ((Kd.R_reads' HO601.out).2.2)); (case side2 => exact (Kd.R_reads' HO601.out).2.1); (case side3 => exact xC ((Kd.V_reads' HO604.out).2.2)); (case side4 => exact (Kd.V_reads' HO604.out).2.1); rintro e w' ⟨rfl, ⟨nd, rfl⟩⟩; (try exact xD); obtain ⟨Ao92, co92, eo92⟩ := Kd.R_slice HO609.out; subst eo92; obtain ⟨Ao93, co93, eo93⟩ := Kd.R_slice HO613.out; subst eo93) | (go_at_call 21; (with_reducible refine (laws_iSame.calls kj28 _ _ t606 _ _ t610 t615 _ ?side1 ?side2 ?side3 ?side4 A89.out).mono ?_); (case side1 => exact xC ((Kd.R_reads' HO609.out).2.2)); (case side2 => exact (Kd.R_reads' HO609.out).2.1); (case side3 => exact xC ((Kd.R_reads' HO613.out).2.2)); (case side4 => exact (Kd.R_reads' HO613.out).2.1); rintro e w' ⟨rfl, ⟨nd, rfl⟩⟩; (try exact xD))); try go_wp2_with (first | (go_at_call 21; (with_reducible refine (laws_iSame.calls kj28 _ _ t598 _ _ t602 true _ ?side1 ?side2 ?side3 ?side4 A86.out).mono ?_); (case side1 => exact xC ((Kd.R_reads' HO601.out).2.2)); (case side2 => exact (Kd.R_reads' HO601.out).2.1); (case side3 => exact xC ((Kd.V_reads' HO604.out).2.2)); (case side4 => exact (Kd.V_reads' HO604.out).2.1); rintro e w' ⟨rfl, ⟨nd, rfl⟩⟩; (try exact xD); obtain ⟨Ao92, co92, eo92⟩ := Kd.R_slice HO609.out; subst eo92; obtain ⟨Ao93, co93, eo93⟩ := Kd.R_slice HO613.out; subst eo93) | (go_at_call 21; (with_reducible refine (laws_iSame.calls kj28 _ _ t606 _ _ t610 t615 _ ?side1 ?side2 ?side3 ?side4 A89.out).mono ?_); (case side1 => exact xC ((Kd.R_reads' HO609.out).2.2)); (case side2 => exact (Kd.R_reads' HO609.out).2.1); (case side3 => exact xC ((Kd.R_reads' HO613.out).2.2)); (case side4 => exact (Kd.R_reads' HO613.out).2.1); rintro e w' ⟨rfl, ⟨nd, rfl⟩⟩; (try exact xD))))
         go_meet
         case rel => exact ⟨_, (!t615), (by first | rfl | (simp; done) | (simp [*]; done)), H', ⟨by have := HJ9.out; have := HJ26.out; have := HJ28.out; first | omega | exact Nat.le_refl _⟩, ⟨by (with_reducible repeat (first | apply Kd.R_alloc | apply Kd.R_drewN | apply Kd.R_drew)); exact Kd.R_mono HO597.out (fun _ hk => ⟨hk.1.1.2, hk.1.2⟩)⟩, ⟨by (with_reducible repeat (first | apply Kd.R_alloc | apply Kd.R_drewN | apply Kd.R_drew)); exact Kd.R_mono HO601.out (fun _ hk => ⟨hk.1.1.2, hk.1.2⟩)⟩, ⟨by (with_reducible repeat (first | apply Kd.R_alloc | apply Kd.R_drewN | apply Kd.R_drew)); exact Kd.R_mono HO609.out (fun _ hk => ⟨hk.1.1.2, hk.1.2⟩)⟩, ⟨xB HB.out⟩⟩
       case rest => as_aux_lemma =>
        clear HC78
        obtain ⟨kq, x272_77, rfl, HA, HJ77, HO_28, HO_32, HO_36, HB⟩ := hcut
        cases kq with
        | zero => exact absurd HA.out (by simp [laws_FnCombsWrap.j7])
        | succ kj77 =>
         have H := HA.out
         clear HA
         simp only [laws_FnCombsWrap.j7] at H
         by_cases c94 : x272_77 = true
         ·as_aux_lemma =>
           subst c94
           have H1 := H
           rw [if_pos rfl] at H1
           clear H
           have H := H1
           clear H1
           exact absurd ((Option.some.inj H).trans HRT.out) (by decide)
         replace c94 := Bool.eq_false_iff.mpr c94
         subst c94
         have H1 := H
         rw [if_neg (show ¬ (false = true) by decide)] at H1
         clear H
         have H := H1
         clear H1
         have HC95 := Aside0.mk H
         clear H
         go_upto_region 44 with (fail)
         repeat (go_quiet (fail); go_upto_region 44 with (fail))
         go_cut [276] (fun v276 wc => ∃ (kq : Nat) (x276_94 : Bool), v276 = .bool x276_94 ∧ Aside0 (laws_FnCombsWrap.j8 kq l1 t592 t593 t595 t598 t606 x276_94 = some r) ∧ Aside0 (kq ≤ kj77) ∧ Aside0 (Kd.R (Kd.int .i64) 3 wc w.heap.size (fun k_ => some k_ ≠ (v600 : Value).ownBlock ∧ some k_ ≠ (v608 : Value).ownBlock) (.slice Ao80 t592.length co80) t592) ∧ Aside0 (Kd.R (Kd.int .i64) 3 wc w.heap.size (fun k_ => some k_ ≠ ((.slice Ao80 t592.length co80) : Value).ownBlock ∧ some k_ ≠ (v608 : Value).ownBlock) v600 t598) ∧ Aside0 (Kd.R (Kd.int .i64) 3 wc w.heap.size (fun k_ => some k_ ≠ ((.slice Ao80 t592.length co80) : Value).ownBlock ∧ some k_ ≠ (v600 : Value).ownBlock) v608 t606) ∧ Aside0 (Below w.heap.size w wc))
         case first => as_aux_lemma =>
          have H := HC95.out
          clear HC95
          by_cases c96 : t599 = true
          ·as_aux_lemma =>
            subst c96
            have H1 := H
            rw [if_pos rfl] at H1
            clear H
            have H := H1
            clear H1
            have H' := Aside0.mk H
            clear H
            go_wp2
            repeat (go_quiet (fail); try go_wp2)
            go_meet
            case rel => exact ⟨_, (t607), (by first | rfl | (simp; done) | (simp [*]; done)), H', ⟨by have := HJ9.out; have := HJ26.out; have := HJ28.out; have := HJ77.out; first | omega | exact Nat.le_refl _⟩, ⟨xR HO_28.out⟩, ⟨xR HO_32.out⟩, ⟨xR HO_36.out⟩, ⟨xB HB.out⟩⟩
          as_aux_lemma =>
           replace c96 := Bool.eq_false_iff.mpr c96
           subst c96
           have H1 := H
           rw [if_neg (show ¬ (false = true) by decide)] at H1
           clear H
           have H := H1
           clear H1
           have H' := Aside0.mk H
           clear H
           go_wp2
           repeat (go_quiet (fail); try go_wp2)
           go_meet
           case rel => exact ⟨_, (false), (by first | rfl | (simp; done) | (simp [*]; done)), H', ⟨by have := HJ9.out; have := HJ26.out; have := HJ28.out; have := HJ77.out; first | omega | exact Nat.le_refl _⟩, ⟨xR HO_28.out⟩, ⟨xR HO_32.out⟩, ⟨xR HO_36.out⟩, ⟨xB HB.out⟩⟩
         case rest => as_aux_lemma =>
          clear HC95
          try clear c94
          obtain ⟨kq, x276_94, rfl, HA, HJ94, HO_28, HO_32, HO_36, HB⟩ := hcut
          cases kq with
          | zero => exact absurd HA.out (by simp [laws_FnCombsWrap.j8])
          | succ kj94 =>
           have H := HA.out
           clear HA
           simp only [laws_FnCombsWrap.j8] at H
           by_cases c97 : x276_94 = true
           rotate_left
           ·as_aux_lemma =>
             replace c97 := Bool.eq_false_iff.mpr c97
             subst c97
             have H1 := H
             rw [if_neg (show ¬ (false = true) by decide)] at H1
             clear H
             have H := H1
             clear H1
             replace H := Option.bind_eq_some_iff.mp H
             obtain ⟨⟨t628, t629, t630⟩, A1190, H⟩ := H
             (try dsimp only at H)
             have A119 := Aside0.mk A1190
             clear A1190
             replace H := Option.bind_eq_some_iff.mp H
             obtain ⟨⟨t633, t634⟩, A1200, H⟩ := H
             (try dsimp only at H)
             have A120 := Aside0.mk A1200
             clear A1200
             replace H := Option.bind_eq_some_iff.mp H
             obtain ⟨⟨t635, t636⟩, A1210, H⟩ := H
             (try dsimp only at H)
             have A121 := Aside0.mk A1210
             clear A1210
             by_cases c122 : (t634 == t636) = true
             rotate_left
             ·rw [if_neg c122] at H
              have c122b0 : (t634 == t636) = false := by simpa using c122
              (try (have c122b1 : decide (t634 = t636) = false := by simpa using c122))
              (try (have c122b2 : (t634 == t636) = false := by simpa using c122))
              (try (have c122b3 : ¬ (t634 = t636) := by simpa using c122))
              clear c122
              exact absurd ((Option.some.inj H).trans HRT.out) (by decide)

             rw [if_pos c122] at H
             have c122b0 : (t634 == t636) = true := c122
             (try (have c122b1 : decide (t634 = t636) = true := by simpa using c122))
             (try (have c122b2 : (t634 == t636) = true := by simpa using c122))
             clear c122
             obtain rfl := Option.some.inj H
             go_wp2_with (first | (go_at_call 135; (with_reducible refine (spec_DrawLeastBits.calls kj94 _ _ l1 t628 t629 t630 _ ?side1 ?side2 A119.out).mono ?_); (case side1 => exact xC (Kd.C_below HR1.out HB.out)); (case side2 => exact HC1.out); rintro e w123 ⟨v631, rfl, ho0, hb⟩; have n0_ := Aside0.mk (Kd.R_elder' (xR HO_28.out) (Kd.R_base ho0) hb); have n1_ := Aside0.mk (Kd.R_elder' (xR HO_32.out) (Kd.R_base ho0) hb); have n2_ := Aside0.mk (Kd.R_elder' (xR HO_36.out) (Kd.R_base ho0) hb); have n3_ := Aside0.mk (Kd.R_lower (Kd.R_new' (Kd.R_new' (Kd.R_new' ho0 (Kd.R_lt (xR HO_28.out))) (Kd.R_lt (xR HO_32.out))) (Kd.R_lt (xR HO_36.out))) (below_size (xB HB.out))); have n4_ := Aside0.mk (below_step (xB HB.out) hb); clear HO_28; clear HO_32; clear HO_36; clear HB; have HO_28 := n0_; have HO_32 := n1_; have HO_36 := n2_; have HO632 := n3_; have HB := n4_; clear n0_ n1_ n2_ n3_ n4_; (try clear hb); (try clear hb2); (try clear hk); (try clear hi); (try clear ho0); obtain ⟨Ao124, co124, eo124⟩ := Kd.R_slice HO632.out; subst eo124) | (go_at_call 128; (with_reducible refine (impl_LeastBits.calls kj94 _ _ t628 t629 t630 t633 t634 _ ?side1 ?side2 A120.out).mono ?_); (case side1 => exact xC ((Kd.R_reads' HO632.out).2.2)); (case side2 => exact (Kd.R_reads' HO632.out).2.1); rintro e w125 ⟨rfl, hb⟩; have n0_ := Aside0.mk (Kd.R_below (xR HO_28.out) hb); have n1_ := Aside0.mk (Kd.R_below (xR HO_32.out) hb); have n2_ := Aside0.mk (Kd.R_below (xR HO_36.out) hb); have n3_ := Aside0.mk (Kd.R_below (xR HO632.out) hb); have n4_ := Aside0.mk (below_step (xB HB.out) hb); clear HO_28; clear HO_32; clear HO_36; clear HO632; clear HB; have HO_28 := n0_; have HO_32 := n1_; have HO_36 := n2_; have HO632 := n3_; have HB := n4_; clear n0_ n1_ n2_ n3_ n4_; (try clear hb); (try clear hb2); (try clear hk); (try clear hi)) | (go_at_call 136; (with_reducible refine (spec_LeastBits.calls kj94 _ _ t628 t629 t630 t635 t636 _ ?side1 ?side2 A121.out).mono ?_); (case side1 => exact xC ((Kd.R_reads' HO632.out).2.2)); (case side2 => exact (Kd.R_reads' HO632.out).2.1); rintro e w126 ⟨rfl, hb⟩; have n0_ := Aside0.mk (Kd.R_below (xR HO_28.out) hb); have n1_ := Aside0.mk (Kd.R_below (xR HO_32.out) hb); have n2_ := Aside0.mk (Kd.R_below (xR HO_36.out) hb); have n3_ := Aside0.mk (Kd.R_below (xR HO632.out) hb); have n4_ := Aside0.mk (below_step (xB HB.out) hb); clear HO_28; clear HO_32; clear HO_36; clear HO632; clear HB; have HO_28 := n0_; have HO_32 := n1_; have HO_36 := n2_; have HO632 := n3_; have HB := n4_; clear n0_ n1_ n2_ n3_ n4_; (try clear hb); (try clear hb2); (try clear hk); (try clear hi)))
             repeat (go_quiet (first | (go_at_call 135; (with_reducible refine (spec_DrawLeastBits.calls kj94 _ _ l1 t628 t629 t630 _ ?side1 ?side2 A119.out).mono ?_); (case side1 => exact xC (Kd.C_below HR1.out HB.out)); (case side2 => exact HC1.out); rintro e w123 ⟨v631, rfl, ho0, hb⟩; have n0_ := Aside0.mk (Kd.R_elder' (xR HO_28.out) (Kd.R_base ho0) hb); have n1_ := Aside0.mk (Kd.R_elder' (xR HO_32.out) (Kd.R_base ho0) hb); have n2_ := Aside0.mk (Kd.R_elder' (xR HO_36.out) (Kd.R_base ho0) hb); have n3_ := Aside0.mk (Kd.R_lower (Kd.R_new' (Kd.R_new' (Kd.R_new' ho0 (Kd.R_lt (xR HO_28.out))) (Kd.R_lt (xR HO_32.out))) (Kd.R_lt (xR HO_36.out))) (below_size (xB HB.out))); have n4_ := Aside0.mk (below_step (xB HB.out) hb); clear HO_28; clear HO_32; clear HO_36; clear HB; have HO_28 := n0_; have HO_32 := n1_; have HO_36 := n2_; have HO632 := n3_; have HB := n4_; clear n0_ n1_ n2_ n3_ n4_; (try clear hb); (try clear hb2); (try clear hk); (try clear hi); (try clear ho0); obtain ⟨Ao124, co124, eo124⟩ := Kd.R_slice HO632.out; subst eo124) | (go_at_call 128; (with_reducible refine (impl_LeastBits.calls kj94 _ _ t628 t629 t630 t633 t634 _ ?side1 ?side2 A120.out).mono ?_); (case side1 => exact xC ((Kd.R_reads' HO632.out).2.2)); (case side2 => exact (Kd.R_reads' HO632.out).2.1); rintro e w125 ⟨rfl, hb⟩; have n0_ := Aside0.mk (Kd.R_below (xR HO_28.out) hb); have n1_ := Aside0.mk (Kd.R_below (xR HO_32.out) hb); have n2_ := Aside0.mk (Kd.R_below (xR HO_36.out) hb); have n3_ := Aside0.mk (Kd.R_below (xR HO632.out) hb); have n4_ := Aside0.mk (below_step (xB HB.out) hb); clear HO_28; clear HO_32; clear HO_36; clear HO632; clear HB; have HO_28 := n0_; have HO_32 := n1_; have HO_36 := n2_; have HO632 := n3_; have HB := n4_; clear n0_ n1_ n2_ n3_ n4_; (try clear hb); (try clear hb2); (try clear hk); (try clear hi)) | (go_at_call 136; (with_reducible refine (spec_LeastBits.calls kj94 _ _ t628 t629 t630 t635 t636 _ ?side1 ?side2 A121.out).mono ?_); (case side1 => exact xC ((Kd.R_reads' HO632.out).2.2)); (case side2 => exact (Kd.R_reads' HO632.out).2.1); rintro e w126 ⟨rfl, hb⟩; have n0_ := Aside0.mk (Kd.R_below (xR HO_28.out) hb); have n1_ := Aside0.mk (Kd.R_below (xR HO_32.out) hb); have n2_ := Aside0.mk (Kd.R_below (xR HO_36.out) hb); have n3_ := Aside0.mk (Kd.R_below (xR HO632.out) hb); have n4_ := Aside0.mk (below_step (xB HB.out) hb); clear HO_28; clear HO_32; clear HO_36; clear HO632; clear HB; have HO_28 := n0_; have HO_32 := n1_; have HO_36 := n2_; have HO632 := n3_; have HB := n4_; clear n0_ n1_ n2_ n3_ n4_; (try clear hb); (try clear hb2); (try clear hk); (try clear hi))); try go_wp2_with (first | (go_at_call 135; (with_reducible refine (spec_DrawLeastBits.calls kj94 _ _ l1 t628 t629 t630 _ ?side1 ?side2 A119.out).mono ?_); (case side1 => exact xC (Kd.C_below HR1.out HB.out)); (case side2 => exact HC1.out); rintro e w123 ⟨v631, rfl, ho0, hb⟩; have n0_ := Aside0.mk (Kd.R_elder' (xR HO_28.out) (Kd.R_base ho0) hb); have n1_ := Aside0.mk (Kd.R_elder' (xR HO_32.out) (Kd.R_base ho0) hb); have n2_ := Aside0.mk (Kd.R_elder' (xR HO_36.out) (Kd.R_base ho0) hb); have n3_ := Aside0.mk (Kd.R_lower (Kd.R_new' (Kd.R_new' (Kd.R_new' ho0 (Kd.R_lt (xR HO_28.out))) (Kd.R_lt (xR HO_32.out))) (Kd.R_lt (xR HO_36.out))) (below_size (xB HB.out))); have n4_ := Aside0.mk (below_step (xB HB.out) hb); clear HO_28; clear HO_32; clear HO_36; clear HB; have HO_28 := n0_; have HO_32 := n1_; have HO_36 := n2_; have HO632 := n3_; have HB := n4_; clear n0_ n1_ n2_ n3_ n4_; (try clear hb); (try clear hb2); (try clear hk); (try clear hi); (try clear ho0); obtain ⟨Ao124, co124, eo124⟩ := Kd.R_slice HO632.out; subst eo124) | (go_at_call 128; (with_reducible refine (impl_LeastBits.calls kj94 _ _ t628 t629 t630 t633 t634 _ ?side1 ?side2 A120.out).mono ?_); (case side1 => exact xC ((Kd.R_reads' HO632.out).2.2)); (case side2 => exact (Kd.R_reads' HO632.out).2.1); rintro e w125 ⟨rfl, hb⟩; have n0_ := Aside0.mk (Kd.R_below (xR HO_28.out) hb); have n1_ := Aside0.mk (Kd.R_below (xR HO_32.out) hb); have n2_ := Aside0.mk (Kd.R_below (xR HO_36.out) hb); have n3_ := Aside0.mk (Kd.R_below (xR HO632.out) hb); have n4_ := Aside0.mk (below_step (xB HB.out) hb); clear HO_28; clear HO_32; clear HO_36; clear HO632; clear HB; have HO_28 := n0_; have HO_32 := n1_; have HO_36 := n2_; have HO632 := n3_; have HB := n4_; clear n0_ n1_ n2_ n3_ n4_; (try clear hb); (try clear hb2); (try clear hk); (try clear hi)) | (go_at_call 136; (with_reducible refine (spec_LeastBits.calls kj94 _ _ t628 t629 t630 t635 t636 _ ?side1 ?side2 A121.out).mono ?_); (case side1 => exact xC ((Kd.R_reads' HO632.out).2.2)); (case side2 => exact (Kd.R_reads' HO632.out).2.1); rintro e w126 ⟨rfl, hb⟩; have n0_ := Aside0.mk (Kd.R_below (xR HO_28.out) hb); have n1_ := Aside0.mk (Kd.R_below (xR HO_32.out) hb); have n2_ := Aside0.mk (Kd.R_below (xR HO_36.out) hb); have n3_ := Aside0.mk (Kd.R_below (xR HO632.out) hb); have n4_ := Aside0.mk (below_step (xB HB.out) hb); clear HO_28; clear HO_32; clear HO_36; clear HO632; clear HB; have HO_28 := n0_; have HO_32 := n1_; have HO_36 := n2_; have HO632 := n3_; have HB := n4_; clear n0_ n1_ n2_ n3_ n4_; (try clear hb); (try clear hb2); (try clear hk); (try clear hi))))
             go_ret
             exact ⟨by first | rfl | (simp [errW_none, errW_some] <;> rfl) | (simp [*, errW_none, errW_some] <;> rfl), xB HB.out⟩
           subst c97
           have H1 := H
           rw [if_pos rfl] at H1
           clear H
           have H := H1
           clear H1
           have HC98 := Aside0.mk H
           clear H
           go_upto_region 45 with (fail)
           repeat (go_quiet (fail); go_upto_region 45 with (fail))
           go_cut [290] (fun v290 wc => ∃ (kq : Nat) (x290_97 : Bool), v290 = .bool x290_97 ∧ Aside0 (laws_FnCombsWrap.j9 kq l1 t593 t598 t606 x290_97 = some r) ∧ Aside0 (kq ≤ kj94) ∧ Aside0 (Kd.R (Kd.int .i64) 3 wc w.heap.size (fun k_ => some k_ ≠ (v608 : Value).ownBlock) v600 t598) ∧ Aside0 (Kd.R (Kd.int .i64) 3 wc w.heap.size (fun k_ => some k_ ≠ (v600 : Value).ownBlock) v608 t606) ∧ Aside0 (Below w.heap.size w wc))
           case first => as_aux_lemma =>
            have H := HC98.out
            clear HC98
            by_cases c99 : (t598.length : Int) = (t606.length : Int)
            rotate_left
            ·as_aux_lemma =>
              rw [if_neg c99] at H
              have c99b0 : ((t598.length : Int) == (t606.length : Int)) = false := beq_eq_false_iff_ne.mpr c99
              have c99b1 : ((t598.length : Int) != (t606.length : Int)) = true := bne_iff_ne.mpr c99
              have c99b2 : (t598.length == t606.length) = false := by first | simpa using c99 | (simp at c99 ⊢; omega)
              (first | rw [c99b0] | (simp only [i64_w, i32_w]; rw [c99b0]) | skip)
              exact absurd H (by have hr_ := HRT.out; cases kj94 <;> simp [laws_FnCombsWrap.j9, hr_])
            as_aux_lemma =>
             rw [if_pos c99] at H
             have c99b0 : ((t598.length : Int) == (t606.length : Int)) = true := beq_iff_eq.mpr c99
             have c99b1 : ((t598.length : Int) != (t606.length : Int)) = false := bne_eq_false_iff_eq.mpr c99
             have c99b2 : (t598.length == t606.length) = true := by first | simpa using c99 | (simp at c99 ⊢; omega)
             clear c99
             (first | rw [c99b0] | (simp only [i64_w, i32_w]; rw [c99b0]) | skip)
             have H' := Aside0.mk H
             clear H
             obtain ⟨Ao100, co100, eo100⟩ := Kd.R_slice HO_32.out
             subst eo100
             obtain ⟨Ao101, co101, eo101⟩ := Kd.R_slice HO_36.out
             subst eo101
             go_wp2
             repeat (go_quiet (fail); try go_wp2)
             go_meet
             case rel => exact ⟨_, (((t606.length : Int) != (wrap64 ((t592.length : Int) * t595)))), (by first | rfl | (simp; done) | (simp [*]; done)), H', ⟨by have := HJ9.out; have := HJ26.out; have := HJ28.out; have := HJ77.out; have := HJ94.out; first | omega | exact Nat.le_refl _⟩, ⟨by (with_reducible repeat (first | apply Kd.R_alloc | apply Kd.R_drewN | apply Kd.R_drew)); exact Kd.R_mono HO_32.out (fun _ hk => hk.2)⟩, ⟨by (with_reducible repeat (first | apply Kd.R_alloc | apply Kd.R_drewN | apply Kd.R_drew)); exact Kd.R_mono HO_36.out (fun _ hk => hk.2)⟩, ⟨xB HB.out⟩⟩
           case rest => as_aux_lemma =>
            clear HC98
            try clear c97
            obtain ⟨kq, x290_97, rfl, HA, HJ97, HO_32, HO_36, HB⟩ := hcut
            cases kq with
            | zero => exact absurd HA.out (by simp [laws_FnCombsWrap.j9])
            | succ kj97 =>
             have H := HA.out
             clear HA
             simp only [laws_FnCombsWrap.j9] at H
             by_cases c102 : x290_97 = true
             ·as_aux_lemma =>
               subst c102
               have H1 := H
               rw [if_pos rfl] at H1
               clear H
               have H := H1
               clear H1
               exact absurd ((Option.some.inj H).trans HRT.out) (by decide)
             replace c102 := Bool.eq_false_iff.mpr c102
             subst c102
             have H1 := H
             rw [if_neg (show ¬ (false = true) by decide)] at H1
             clear H
             have H := H1
             clear H1
             have H' := Aside0.mk H
             clear H
             obtain ⟨Ao103, co103, eo103⟩ := Kd.R_slice HO_36.out
             subst eo103
             go_wp2
             repeat (go_quiet (fail); try go_wp2)
             go_loopg [293] kj97 (fun kq v293 w' => ∃ (x293_7 : Int), v293 = .int .i64 x293_7 ∧ Aside0 (laws_FnCombsWrap.l3 kq l1 t593 t598 t606 (t606.length : Int) x293_7 = some r) ∧ Aside0 (kq ≤ kj97) ∧ Aside0 (Kd.R (Kd.int .i64) 3 w' w.heap.size (fun k_ => some k_ ≠ ((.slice Ao103 t606.length co103) : Value).ownBlock) v600 t598) ∧ Aside0 (Kd.R (Kd.int .i64) 3 w' w.heap.size (fun k_ => some k_ ≠ (v600 : Value).ownBlock) (.slice Ao103 t606.length co103) t606) ∧ Aside0 (Below w.heap.size w w'))
             case atStart => exact ⟨(0), (by first | rfl | (simp; done) | (simp [*]; done)), H', ⟨Nat.le_refl _⟩, ⟨xR HO_32.out⟩, ⟨xR HO_36.out⟩, ⟨xB HB.out⟩⟩
             case round =>
              clear H'
              try clear c102
              obtain ⟨x293_7, rfl, HA, HK7, HO_32, HO_291, HB⟩ := hrel
              cases gk with
              | zero => exact absurd HA.out (by simp [laws_FnCombsWrap.l3])
              | succ k7 =>
               have H := HA.out
               clear HA
               simp only [laws_FnCombsWrap.l3] at H
               by_cases c104 : x293_7 < (t606.length : Int)
               rotate_left
               ·as_aux_lemma =>
                 rw [if_neg c104] at H
                 have c104b0 : decide (x293_7 < (t606.length : Int)) = false := decide_eq_false c104
                 clear c104
                 replace H := Option.bind_eq_some_iff.mp H
                 obtain ⟨⟨t619, t620, t621⟩, A1110, H⟩ := H
                 (try dsimp only at H)
                 have A111 := Aside0.mk A1110
                 clear A1110
                 replace H := Option.bind_eq_some_iff.mp H
                 obtain ⟨⟨t624, t625⟩, A1120, H⟩ := H
                 (try dsimp only at H)
                 have A112 := Aside0.mk A1120
                 clear A1120
                 replace H := Option.bind_eq_some_iff.mp H
                 obtain ⟨⟨t626, t627⟩, A1130, H⟩ := H
                 (try dsimp only at H)
                 have A113 := Aside0.mk A1130
                 clear A1130
                 by_cases c114 : (t625 == t627) = true
                 rotate_left
                 ·rw [if_neg c114] at H
                  have c114b0 : (t625 == t627) = false := by simpa using c114
                  (try (have c114b1 : decide (t625 = t627) = false := by simpa using c114))
                  (try (have c114b2 : (t625 == t627) = false := by simpa using c114))
                  (try (have c114b3 : ¬ (t625 = t627) := by simpa using c114))
                  clear c114
                  exact absurd ((Option.some.inj H).trans HRT.out) (by decide)
                 rw [if_pos c114] at H
                 have c114b0 : (t625 == t627) = true := c114
                 (try (have c114b1 : decide (t625 = t627) = true := by simpa using c114))
                 (try (have c114b2 : (t625 == t627) = true := by simpa using c114))
                 clear c114
                 obtain rfl := Option.some.inj H
                 go_wp2_with (first | (go_at_call 135; (with_reducible refine (spec_DrawLeastBits.calls k7 _ _ l1 t619 t620 t621 _ ?side1 ?side2 A111.out).mono ?_); (case side1 => exact xC (Kd.C_below HR1.out HB.out)); (case side2 => exact HC1.out); rintro e w115 ⟨v622, rfl, ho0, hb⟩; have n0_ := Aside0.mk (Kd.R_elder' (xR HO_32.out) (Kd.R_base ho0) hb); have n1_ := Aside0.mk (Kd.R_elder' (xR HO_291.out) (Kd.R_base ho0) hb); have n2_ := Aside0.mk (Kd.R_lower (Kd.R_new' (Kd.R_new' ho0 (Kd.R_lt (xR HO_32.out))) (Kd.R_lt (xR HO_291.out))) (below_size (xB HB.out))); have n3_ := Aside0.mk (below_step (xB HB.out) hb); clear HO_32; clear HO_291; clear HB; have HO_32 := n0_; have HO_291 := n1_; have HO623 := n2_; have HB := n3_; clear n0_ n1_ n2_ n3_; (try clear hb); (try clear hb2); (try clear hk); (try clear hi); (try clear ho0); obtain ⟨Ao116, co116, eo116⟩ := Kd.R_slice HO623.out; subst eo116) | (go_at_call 128; (with_reducible refine (impl_LeastBits.calls k7 _ _ t619 t620 t621 t624 t625 _ ?side1 ?side2 A112.out).mono ?_); (case side1 => exact xC ((Kd.R_reads' HO623.out).2.2)); (case side2 => exact (Kd.R_reads' HO623.out).2.1); rintro e w117 ⟨rfl, hb⟩; have n0_ := Aside0.mk (Kd.R_below (xR HO_32.out) hb); have n1_ := Aside0.mk (Kd.R_below (xR HO_291.out) hb); have n2_ := Aside0.mk (Kd.R_below (xR HO623.out) hb); have n3_ := Aside0.mk (below_step (xB HB.out) hb); clear HO_32; clear HO_291; clear HO623; clear HB; have HO_32 := n0_; have HO_291 := n1_; have HO623 := n2_; have HB := n3_; clear n0_ n1_ n2_ n3_; (try clear hb); (try clear hb2); (try clear hk); (try clear hi)) | (go_at_call 136; (with_reducible refine (spec_LeastBits.calls k7 _ _ t619 t620 t621 t626 t627 _ ?side1 ?side2 A113.out).mono ?_); (case side1 => exact xC ((Kd.R_reads' HO623.out).2.2)); (case side2 => exact (Kd.R_reads' HO623.out).2.1); rintro e w118 ⟨rfl, hb⟩; have n0_ := Aside0.mk (Kd.R_below (xR HO_32.out) hb); have n1_ := Aside0.mk (Kd.R_below (xR HO_291.out) hb); have n2_ := Aside0.mk (Kd.R_below (xR HO623.out) hb); have n3_ := Aside0.mk (below_step (xB HB.out) hb); clear HO_32; clear HO_291; clear HO623; clear HB; have HO_32 := n0_; have HO_291 := n1_; have HO623 := n2_; have HB := n3_; clear n0_ n1_ n2_ n3_; (try clear hb); (try clear hb2); (try clear hk); (try clear hi)))
                 repeat (go_quiet (first | (go_at_call 135; (with_reducible refine (spec_DrawLeastBits.calls k7 _ _ l1 t619 t620 t621 _ ?side1 ?side2 A111.out).mono ?_); (case side1 => exact xC (Kd.C_below HR1.out HB.out)); (case side2 => exact HC1.out); rintro e w115 ⟨v622, rfl, ho0, hb⟩; have n0_ := Aside0.mk (Kd.R_elder' (xR HO_32.out) (Kd.R_base ho0) hb); have n1_ := Aside0.mk (Kd.R_elder' (xR HO_291.out) (Kd.R_base ho0) hb); have n2_ := Aside0.mk (Kd.R_lower (Kd.R_new' (Kd.R_new' ho0 (Kd.R_lt (xR HO_32.out))) (Kd.R_lt (xR HO_291.out))) (below_size (xB HB.out))); have n3_ := Aside0.mk (below_step (xB HB.out) hb); clear HO_32; clear HO_291; clear HB; have HO_32 := n0_; have HO_291 := n1_; have HO623 := n2_; have HB := n3_; clear n0_ n1_ n2_ n3_; (try clear hb); (try clear hb2); (try clear hk); (try clear hi); (try clear ho0); obtain ⟨Ao116, co116, eo116⟩ := Kd.R_slice HO623.out; subst eo116) | (go_at_call 128; (with_reducible refine (impl_LeastBits.calls k7 _ _ t619 t620 t621 t624 t625 _ ?side1 ?side2 A112.out).mono ?_); (case side1 => exact xC ((Kd.R_reads' HO623.out).2.2)); (case side2 => exact (Kd.R_reads' HO623.out).2.1); rintro e w117 ⟨rfl, hb⟩; have n0_ := Aside0.mk (Kd.R_below (xR HO_32.out) hb); have n1_ := Aside0.mk (Kd.R_below (xR HO_291.out) hb); have n2_ := Aside0.mk (Kd.R_below (xR HO623.out) hb); have n3_ := Aside0.mk (below_step (xB HB.out) hb); clear HO_32; clear HO_291; clear HO623; clear HB; have HO_32 := n0_; have HO_291 := n1_; have HO623 := n2_; have HB := n3_; clear n0_ n1_ n2_ n3_; (try clear hb); (try clear hb2); (try clear hk); (try clear hi)) | (go_at_call 136; (with_reducible refine (spec_LeastBits.calls k7 _ _ t619 t620 t621 t626 t627 _ ?side1 ?side2 A113.out).mono ?_); (case side1 => exact xC ((Kd.R_reads' HO623.out).2.2)); (case side2 => exact (Kd.R_reads' HO623.out).2.1); rintro e w118 ⟨rfl, hb⟩; have n0_ := Aside0.mk (Kd.R_below (xR HO_32.out) hb); have n1_ := Aside0.mk (Kd.R_below (xR HO_291.out) hb); have n2_ := Aside0.mk (Kd.R_below (xR HO623.out) hb); have n3_ := Aside0.mk (below_step (xB HB.out) hb); clear HO_32; clear HO_291; clear HO623; clear HB; have HO_32 := n0_; have HO_291 := n1_; have HO623 := n2_; have HB := n3_; clear n0_ n1_ n2_ n3_; (try clear hb); (try clear hb2); (try clear hk); (try clear hi))); try go_wp2_with (first | (go_at_call 135; (with_reducible refine (spec_DrawLeastBits.calls k7 _ _ l1 t619 t620 t621 _ ?side1 ?side2 A111.out).mono ?_); (case side1 => exact xC (Kd.C_below HR1.out HB.out)); (case side2 => exact HC1.out); rintro e w115 ⟨v622, rfl, ho0, hb⟩; have n0_ := Aside0.mk (Kd.R_elder' (xR HO_32.out) (Kd.R_base ho0) hb); have n1_ := Aside0.mk (Kd.R_elder' (xR HO_291.out) (Kd.R_base ho0) hb); have n2_ := Aside0.mk (Kd.R_lower (Kd.R_new' (Kd.R_new' ho0 (Kd.R_lt (xR HO_32.out))) (Kd.R_lt (xR HO_291.out))) (below_size (xB HB.out))); have n3_ := Aside0.mk (below_step (xB HB.out) hb); clear HO_32; clear HO_291; clear HB; have HO_32 := n0_; have HO_291 := n1_; have HO623 := n2_; have HB := n3_; clear n0_ n1_ n2_ n3_; (try clear hb); (try clear hb2); (try clear hk); (try clear hi); (try clear ho0); obtain ⟨Ao116, co116, eo116⟩ := Kd.R_slice HO623.out; subst eo116) | (go_at_call 128; (with_reducible refine (impl_LeastBits.calls k7 _ _ t619 t620 t621 t624 t625 _ ?side1 ?side2 A112.out).mono ?_); (case side1 => exact xC ((Kd.R_reads' HO623.out).2.2)); (case side2 => exact (Kd.R_reads' HO623.out).2.1); rintro e w117 ⟨rfl, hb⟩; have n0_ := Aside0.mk (Kd.R_below (xR HO_32.out) hb); have n1_ := Aside0.mk (Kd.R_below (xR HO_291.out) hb); have n2_ := Aside0.mk (Kd.R_below (xR HO623.out) hb); have n3_ := Aside0.mk (below_step (xB HB.out) hb); clear HO_32; clear HO_291; clear HO623; clear HB; have HO_32 := n0_; have HO_291 := n1_; have HO623 := n2_; have HB := n3_; clear n0_ n1_ n2_ n3_; (try clear hb); (try clear hb2); (try clear hk); (try clear hi)) | (go_at_call 136; (with_reducible refine (spec_LeastBits.calls k7 _ _ t619 t620 t621 t626 t627 _ ?side1 ?side2 A113.out).mono ?_); (case side1 => exact xC ((Kd.R_reads' HO623.out).2.2)); (case side2 => exact (Kd.R_reads' HO623.out).2.1); rintro e w118 ⟨rfl, hb⟩; have n0_ := Aside0.mk (Kd.R_below (xR HO_32.out) hb); have n1_ := Aside0.mk (Kd.R_below (xR HO_291.out) hb); have n2_ := Aside0.mk (Kd.R_below (xR HO623.out) hb); have n3_ := Aside0.mk (below_step (xB HB.out) hb); clear HO_32; clear HO_291; clear HO623; clear HB; have HO_32 := n0_; have HO_291 := n1_; have HO623 := n2_; have HB := n3_; clear n0_ n1_ n2_ n3_; (try clear hb); (try clear hb2); (try clear hk); (try clear hi))))
                 go_ret
                 exact ⟨by first | rfl | (simp [errW_none, errW_some] <;> rfl) | (simp [*, errW_none, errW_some] <;> rfl), xB HB.out⟩
               as_aux_lemma =>
                rw [if_pos c104] at H
                have c104b0 : decide (x293_7 < (t606.length : Int)) = true := decide_eq_true c104
                clear c104
                by_cases c105 : 0 ≤ x293_7
                rotate_left
                ·rw [if_neg c105] at H
                 exact absurd H (by simp)
                rw [if_pos c105] at H
                have c105b0 : decide (0 ≤ x293_7) = true := decide_eq_true c105
                clear c105
                by_cases c106 : x293_7 < (t606.length : Int)
                rotate_left
                ·rw [if_neg c106] at H
                 exact absurd H (by simp)
                rw [if_pos c106] at H
                have c106b0 : decide (x293_7 < (t606.length : Int)) = true := decide_eq_true c106
                clear c106
                by_cases c107 : x293_7 < (t598.length : Int)
                rotate_left
                ·rw [if_neg c107] at H
                 exact absurd H (by simp)
                rw [if_pos c107] at H
                have c107b0 : decide (x293_7 < (t598.length : Int)) = true := decide_eq_true c107
                clear c107
                replace H := Option.bind_eq_some_iff.mp H
                obtain ⟨t618, A1080, H⟩ := H
                (try dsimp only at H)
                have A108 := Aside0.mk A1080
                clear A1080
                by_cases c109 : (rd t598 x293_7) = t618
                rotate_left
                ·rw [if_neg c109] at H
                 have c109b0 : ((rd t598 x293_7) == t618) = false := beq_eq_false_iff_ne.mpr c109
                 have c109b1 : ((rd t598 x293_7) != t618) = true := bne_iff_ne.mpr c109
                 exact absurd ((Option.some.inj H).trans HRT.out) (by decide)
                rw [if_pos c109] at H
                have c109b0 : ((rd t598 x293_7) == t618) = true := beq_iff_eq.mpr c109
                have c109b1 : ((rd t598 x293_7) != t618) = false := bne_eq_false_iff_eq.mpr c109
                clear c109
                have H' := Aside0.mk H
                clear H
                have p616 : 0 ≤ (x293_7 : Int) := of_decide_eq_true (by first | (with_reducible assumption) | assumption)
                have q616 : x293_7 < (t606.length : Int) := of_decide_eq_true (by first | (with_reducible assumption) | assumption)
                obtain ⟨ad616, e616, hx616_0⟩ := Kd.at_int (Kd.R_reads' HO_291.out).2.2 x293_7 p616 q616
                cases e616
                replace p616 := eq_true p616
                replace q616 := eq_true q616
                obtain ⟨Ao110, co110, eo110⟩ := Kd.R_slice HO_32.out
                subst eo110
                have p617 : 0 ≤ (x293_7 : Int) := of_decide_eq_true (by first | (with_reducible assumption) | assumption)
                have q617 : x293_7 < (t598.length : Int) := of_decide_eq_true (by first | (with_reducible assumption) | assumption)
                obtain ⟨ad617, e617, hx617_0⟩ := Kd.at_int (Kd.R_reads' HO_32.out).2.2 x293_7 p617 q617
                cases e617
                replace p617 := eq_true p617
                replace q617 := eq_true q617
                go_wp2_with (first | (go_at_call 63; (with_reducible refine (laws_iWrap.calls (rd t606 x293_7) t593 t618 _ A108.out).mono ?_); rintro e w' ⟨rfl, ⟨nd, rfl⟩⟩; (try exact xD)))
                repeat (go_quiet (first | (go_at_call 63; (with_reducible refine (laws_iWrap.calls (rd t606 x293_7) t593 t618 _ A108.out).mono ?_); rintro e w' ⟨rfl, ⟨nd, rfl⟩⟩; (try exact xD))); try go_wp2_with (first | (go_at_call 63; (with_reducible refine (laws_iWrap.calls (rd t606 x293_7) t593 t618 _ A108.out).mono ?_); rintro e w' ⟨rfl, ⟨nd, rfl⟩⟩; (try exact xD))))
                go_roundg k7
                case measure => have := HJ9.out; have := HJ26.out; have := HJ28.out; have := HJ77.out; have := HJ94.out; have := HJ97.out; have := HK7.out; omega
                case rel => exact ⟨(wrap64 (x293_7 + 1)), (by first | rfl | (simp; done) | (simp [*]; done)), H', ⟨by have := HJ9.out; have := HJ26.out; have := HJ28.out; have := HJ77.out; have := HJ94.out; have := HJ97.out; have := HK7.out; omega⟩, ⟨xR HO_32.out⟩, ⟨xR HO_291.out⟩, ⟨xB HB.out⟩⟩
/-- THE ONE PURE STATEMENT of laws_FnCombsWrap: yours. -/
def laws_FnCombsWrap.Pure : Prop := ∀ (l0 : List Int) (l1 : List Int), l0.length ≤ maxLen → l0.length * 1 ≤ 140737488351232 → (∀ x ∈ l0, (Lit.int .u8 x).wf = true) → l1.length ≤ maxLen → l1.length * 1 ≤ 140737488351232 → (∀ x ∈ l1, (Lit.int .u8 x).wf = true) → ∃ k, laws_FnCombsWrap.f k l0 l1 = some true
theorem laws_FnCombsWrap.walk (P : laws_FnCombsWrap.Pure) (a0 : Option Addr) (len0 cap0 : Nat) (z0 : List Int) (a1 : Option Addr) (len1 cap1 : Nat) (z1 : List Int) (w : World) (w0 : (a0 = none ∧ len0 = 0 ∧ cap0 = 0 ∧ z0 = []) ∨ ∃ x, a0 = some x ∧ len0 ≤ cap0 ∧ cap0 ≤ maxLen ∧ z0.length = cap0 ∧ (∀ i, i < z0.length → w.cell? (x.add i) = some (.int .u8 (z0.getD i 0))) ∧ ∀ n ∈ z0, (Lit.int .u8 n).wf = true) (y0 : len0 * 1 ≤ 140737488351232) (w1 : (a1 = none ∧ len1 = 0 ∧ cap1 = 0 ∧ z1 = []) ∨ ∃ x, a1 = some x ∧ len1 ≤ cap1 ∧ cap1 ≤ maxLen ∧ z1.length = cap1 ∧ (∀ i, i < z1.length → w.cell? (x.add i) = some (.int .u8 (z1.getD i 0))) ∧ ∀ n ∈ z1, (Lit.int .u8 n).wf = true) (y1 : len1 * 1 ≤ 140737488351232) :
  Calls Try.prog 9 #[.slice a0 len0 cap0, .slice a1 len1 cap1] w fun e w' => e = .returned (.bool true) ∧ Below w.heap.size w w' := by
 obtain ⟨l0, rfl, hr0, hm0, hw0, hc0⟩ := ReadsInt.ofRowC w0
 obtain ⟨l1, rfl, hr1, hm1, hw1, hc1⟩ := ReadsInt.ofRowC w1
 obtain ⟨k, h⟩ := P l0 l1 hm0 y0 hw0 hm1 y1 hw1
 refine (laws_FnCombsWrap.calls k _ _ l0 _ _ l1 true w (Kd.C_of_reads (d := (0 : Int)) (h1 := fun _ => rfl) hr0) hc0 (Kd.C_of_reads (d := (0 : Int)) (h1 := fun _ => rfl) hr1) hc1 h rfl).mono ?_
 rintro e w' ⟨rfl, hd⟩
 exact ⟨rfl, hd⟩

end Go.Proofs.Ytjplcongellcmaa.PFnCombsWrap
