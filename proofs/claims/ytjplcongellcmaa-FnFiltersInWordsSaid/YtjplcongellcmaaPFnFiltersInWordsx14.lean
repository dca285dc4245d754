/- What each Go function that the statement FnFiltersInWords reaches answers, proved call by call. No condition beyond those that the theorems print. (Written by wip/tools/xprint.py of this repo, over the kit's print.) -/
import Derived.Test.YtjplcongellcmaaPFnFiltersInWordsx0
import Derived.Test.YtjplcongellcmaaPFnFiltersInWordsx1
import Derived.Test.YtjplcongellcmaaPFnFiltersInWordsx3
import Derived.Test.YtjplcongellcmaaPFnFiltersInWordsx5
import Derived.Test.YtjplcongellcmaaPFnFiltersInWordsx9
import Derived.Test.YtjplcongellcmaaPFnFiltersInWordsx10
import Derived.Test.YtjplcongellcmaaPFnFiltersInWordsx11
import Derived.Test.YtjplcongellcmaaPFnFiltersInWordsx12
import Derived.Test.YtjplcongellcmaaPFnFiltersInWordsx13
namespace Go.Proofs.Ytjplcongellcmaa.PFnFiltersInWords
open Go.RowKit Go.Proofs.YtjplcongellcmaaW.PrintWords Go.Proofs.YtjplcongellcmaaW.PrintLast Go.Proofs.YtjplcongellcmaaW.PrintMore
attribute [local go_sem] max2_int min2_int max_two min_two max_three min_three max_four min_four   -- for this text's walks alone
set_option linter.unusedVariables false
set_option linter.unusedSimpArgs false
def x14a0 : Array Bool := #[false, false, false, false, false, false, false, false, false, false, false, false, false, false, false, false, false, false, false, false, false, false, false, false, false, false, false, false, false, false, false, false, false]
def x14a1 : Array Bool := #[true, false, false, false, false, false, false, false, false, false, false, false, false, false, false, false, false, false, false, false, false, false, false, false, false, false, false, false, false, false, false, false, false]
def x14a2 : Array Bool := #[true, true, false, false, false, false, false, false, false, false, false, false, false, false, false, false, false, false, false, false, false, false, false, false, false, false, false, false, false, false, false, false, false]
def x14a3 : Array Bool := #[true, true, true, false, false, false, false, false, false, false, false, false, false, false, false, false, false, false, false, false, false, false, false, false, false, false, false, false, false, false, false, false, false]
def x14a4 : Array Bool := #[true, true, true, true, false, false, false, false, false, false, false, false, false, false, false, false, false, false, false, false, false, false, false, false, false, false, false, false, false, false, false, false, false]
def x14a5 : Array Bool := #[true, true, true, true, true, false, false, false, false, false, false, false, false, false, false, false, false, false, false, false, false, false, false, false, false, false, false, false, false, false, false, false, false]
def x14a6 : Array Bool := #[true, true, true, true, true, true, false, false, false, false, false, false, false, false, false, false, false, false, false, false, false, false, false, false, false, false, false, false, false, false, false, false, false]
def x14a7 : Array Bool := #[true, true, true, true, true, true, true, false, false, false, false, false, false, false, false, false, false, false, false, false, false, false, false, false, false, false, false, false, false, false, false, false, false]
def x14a8 : Array Bool := #[true, true, true, true, true, true, true, true, false, false, false, false, false, false, false, false, false, false, false, false, false, false, false, false, false, false, false, false, false, false, false, false, false]
def x14a9 : Array Bool := #[true, true, true, true, true, true, true, true, true, false, false, false, false, false, false, false, false, false, false, false, false, false, false, false, false, false, false, false, false, false, false, false, false]
def x14a10 : Array Bool := #[true, true, true, true, true, true, true, true, true, true, false, false, false, false, false, false, false, false, false, false, false, false, false, false, false, false, false, false, false, false, false, false, false]
def x14a11 : Array Bool := #[true, true, true, true, true, true, true, true, true, true, false, true, false, false, false, false, false, false, false, false, false, false, false, false, false, false, false, false, false, false, false, false, false]
def x14a12 : Array Bool := #[true, true, true, true, true, true, true, true, true, true, true, true, false, false, false, false, false, false, false, false, false, false, false, false, false, false, false, false, false, false, false, false, false]
def x14a13 : Array Bool := #[true, true, true, true, true, true, true, true, true, true, true, true, true, false, false, false, false, false, false, false, false, false, false, false, false, false, false, false, false, false, false, false, false]
def x14a14 : Array Bool := #[true, true, true, true, true, true, true, true, true, true, true, true, true, true, false, false, false, false, false, false, false, false, false, false, false, false, false, false, false, false, false, false, false]
def x14a15 : Array Bool := #[true, true, true, true, true, true, true, true, true, true, true, true, true, true, true, false, false, false, false, false, false, false, false, false, false, false, false, false, false, false, false, false, false]
def x14a16 : Array Bool := #[true, true, true, true, true, true, true, true, true, true, true, true, true, true, true, true, false, false, false, false, false, false, false, false, false, false, false, false, false, false, false, false, false]
def x14a17 : Array Bool := #[true, true, true, true, true, true, true, true, true, true, true, true, true, true, true, true, true, false, false, false, false, false, false, false, false, false, false, false, false, false, false, false, false]
def x14a18 : Array Bool := #[true, true, true, true, true, true, true, true, true, true, true, true, true, true, true, true, true, true, false, false, false, false, false, false, false, false, false, false, false, false, false, false, false]
def x14a19 : Array Bool := #[true, true, true, true, true, true, true, true, true, true, true, true, true, true, true, true, true, true, true, false, false, false, false, false, false, false, false, false, false, false, false, false, false]
def x14a20 : Array Bool := #[true, true, true, true, true, true, true, true, true, true, true, true, true, true, true, true, true, true, true, true, false, false, false, false, false, false, false, false, false, false, false, false, false]
def x14a21 : Array Bool := #[true, true, true, true, true, true, true, true, true, true, true, true, true, true, true, true, true, true, true, true, true, false, false, false, false, false, false, false, false, false, false, false, false]
def x14a22 : Array Bool := #[true, true, true, true, true, true, true, true, true, true, true, true, true, true, true, true, true, true, true, true, true, true, false, false, false, false, false, false, false, false, false, false, false]
def x14a23 : Array Bool := #[true, true, true, true, true, true, true, true, true, true, true, true, true, true, true, true, true, true, true, true, true, true, true, false, false, false, false, false, false, false, false, false, false]
def x14a24 : Array Bool := #[true, true, true, true, true, true, true, true, true, true, true, true, true, true, true, true, true, true, true, true, true, true, true, true, false, false, false, false, false, false, false, false, false]
def x14a25 : Array Bool := #[true, true, true, true, true, true, true, true, true, true, true, true, true, true, true, true, true, true, true, true, true, true, true, true, true, false, false, false, false, false, false, false, false]
def x14a26 : Array Bool := #[true, true, true, true, true, true, true, true, true, true, true, true, true, true, true, true, true, true, true, true, true, true, true, true, true, true, false, false, false, false, false, false, false]
def x14a27 : Array Bool := #[true, true, true, true, true, true, true, true, true, true, true, true, true, true, true, true, true, true, true, true, true, true, true, true, true, true, true, false, false, false, false, false, false]
def x14a28 : Array Bool := #[true, true, true, true, true, true, true, true, true, true, true, true, true, true, true, true, true, true, true, true, true, true, true, true, true, true, true, true, false, false, false, false, false]
def x14a29 : Array Bool := #[true, true, true, true, true, true, true, true, true, true, true, true, true, true, true, true, true, true, true, true, true, true, true, true, true, true, true, true, true, false, false, false, false]
def x14a30 : Array Bool := #[true, true, true, true, true, true, true, true, true, true, true, true, true, true, true, true, true, true, true, true, true, true, true, true, true, true, true, true, true, true, false, false, false]
def x14a31 : Array Bool := #[true, true, true, true, true, true, true, true, true, true, true, true, true, true, true, true, true, true, true, true, true, true, true, true, true, true, true, true, true, true, true, false, false]
def x14a32 : Array Bool := #[true, true, true, true, true, true, true, true, true, true, true, true, true, true, true, true, true, true, true, true, true, true, true, true, true, true, true, true, true, true, true, true, false]
def x14a33 : Array Bool := #[true, true, true, true, true, true, true, true, true, true, true, true, true, true, true, true, true, true, true, true, true, true, true, true, true, true, true, true, true, true, true, true, true]
def x14a34 : Array Bool := #[true, true, true, true, true, true, true, true, true, true, true, true, true, true, true, true, true, true, true, true, true, true, true, true, true, false, true, false, false, false, false, false, false]
def x14a35 : Array Bool := #[true, true, true, true, true, true, true, true, true, true, true, true, true, true, true, true, true, true, true, true, true, true, true, true, true, false, true, true, false, false, false, false, false]

/-! ### laws_FnFiltersInWords: function 5 -/
mutual
def laws_FnFiltersInWords.j0 : Nat → List Int → List Int → List Int → Int → Int → List Int → Bool → List Int → Bool → Int → Bool → Option (Bool)
 | 0, _, _, _, _, _, _, _, _, _, _, _ => none
 | k + 1, x1, x6, x7, x8, x9, x10, x11, x14, x114, x465000, x465001 => if x114 = true then (some false) else (if x11 = true then ((impl_FilterShort.f k x6 x7).bind fun bt483 => ((impl_RangeOf.f x465000 x465001).bind fun bt487 => (if bt487.2.2 = true then (if (x10.length : Int) = (x7.length : Int) then (laws_FnFiltersInWords.j1 k x1 x6 x8 x9 x10 x14 bt483.1 bt483.2 bt487.1 bt487.2.1 ((x14.length : Int) != (x7.length : Int)) x465000 x465001) else (laws_FnFiltersInWords.j1 k x1 x6 x8 x9 x10 x14 bt483.1 bt483.2 bt487.1 bt487.2.1 true x465000 x465001)) else (laws_FnFiltersInWords.j1 k x1 x6 x8 x9 x10 x14 bt483.1 bt483.2 bt487.1 bt487.2.1 true x465000 x465001)))) else (laws_FnFiltersInWords.j4 k x1))
def laws_FnFiltersInWords.j4 : Nat → List Int → Option (Bool)
 | 0, _ => none
 | k + 1, x1 => (spec_DrawBitsNeeded.f k x1).bind fun bt506 => ((impl_BitsNeeded.f k bt506.1 bt506.2.1 bt506.2.2).bind fun bt512 => ((spec_BitsNeeded.f k bt506.1 bt506.2.1 bt506.2.2).bind fun bt514 => (if (bt512.2 != bt514.2) = true then (laws_FnFiltersInWords.j5 k bt506.1 bt512.1 bt512.2 true bt506.2.1 bt506.2.2) else (laws_FnFiltersInWords.j5 k bt506.1 bt512.1 bt512.2 (bt512.1 != bt514.1) bt506.2.1 bt506.2.2))))
def laws_FnFiltersInWords.j5 : Nat → List Int → Int → Bool → Bool → Int → Bool → Option (Bool)
 | 0, _, _, _, _, _, _ => none
 | k + 1, x32, x34, x35, x288, x512000, x512001 => if x288 = true then (some false) else (if x35 = true then ((impl_SizeGain.f k x32).bind fun bt516 => ((impl_RangeOf.f x512000 x512001).bind fun bt518 => (if bt516.2 = true then (if bt518.2.2 = true then (if 0 ≤ (wrap64 (x34 - 1)) then (if (wrap64 (bt516.1 * (wrap64 (-bt518.1)))) > (wrap64 ((shl .i64 1 (wrap64 (x34 - 1))) + bt516.1)) then (some false) else (if x34 > 2 then (if 0 ≤ (wrap64 (x34 - 2)) then (if (wrap64 (bt516.1 * (wrap64 ((wrap64 (-bt518.1)) - 1)))) < (wrap64 ((shl .i64 1 (wrap64 (x34 - 2))) - bt516.1)) then (if bt516.1 > 0 then (if (wrap64 (bt516.1 * (wrap64 (-bt518.1)))) < (shl .i64 1 (wrap64 (x34 - 2))) then (some false) else (some true)) else (some true)) else (some true)) else (none)) else (some true))) else (none)) else (some false)) else (some false)))) else (some true))
def laws_FnFiltersInWords.j1 : Nat → List Int → List Int → Int → Int → List Int → List Int → List Int → Bool → Int → Int → Bool → Int → Bool → Option (Bool)
 | 0, _, _, _, _, _, _, _, _, _, _, _, _, _ => none
 | k + 1, x1, x6, x8, x9, x10, x14, x18, x19, x20, x21, x143, x465000, x465001 => if x143 = true then (some false) else (laws_FnFiltersInWords.l0 k x1 x6 x8 x9 x10 x14 x18 x19 x20 x21 (x10.length : Int) 0 x465000 x465001)
def laws_FnFiltersInWords.l0 : Nat → List Int → List Int → Int → Int → List Int → List Int → List Int → Bool → Int → Int → Int → Int → Int → Bool → Option (Bool)
 | 0, _, _, _, _, _, _, _, _, _, _, _, _, _, _ => none
 | k + 1, x1, x6, x8, x9, x10, x14, x18, x19, x20, x21, x145, x146, x465000, x465001 => if x146 < x145 then (if 0 ≤ x146 then (if x146 < (x10.length : Int) then (if (rd x10 x146) < x20 then (some false) else (if (rd x10 x146) > x21 then (some false) else (if x146 < (x14.length : Int) then (if (rd x14 x146) < x20 then (some false) else (if (rd x14 x146) > x21 then (some false) else (laws_FnFiltersInWords.l0 k x1 x6 x8 x9 x10 x14 x18 x19 x20 x21 x145 (wrap64 (x146 + 1)) x465000 x465001))) else (none)))) else (none)) else (none)) else (if x19 = true then (laws_FnFiltersInWords.l1 k x1 x6 x8 x9 x10 x14 x18 x18 (x18.length : Int) 0 x465000 x465001) else (laws_FnFiltersInWords.j4 k x1))
def laws_FnFiltersInWords.l1 : Nat → List Int → List Int → Int → Int → List Int → List Int → List Int → List Int → Int → Int → Int → Bool → Option (Bool)
 | 0, _, _, _, _, _, _, _, _, _, _, _, _ => none
 | k + 1, x1, x6, x8, x9, x10, x14, x18, x181, x182, x183, x465000, x465001 => if x183 < x182 then (if 0 ≤ x183 then (if x183 < (x181.length : Int) then ((impl_RoundShift.f k (rd x181 x183) x8 x9).bind fun bt495 => ((impl_FitNumber.f x465000 x465001 bt495.1).bind fun bt497 => (if bt495.2 = true then (if bt497.2 = true then (if x183 < (x14.length : Int) then (if (rd x14 x183) = bt497.1 then (if x8 = 0 then (if x465001 = true then (if x183 < (x10.length : Int) then ((laws_iWrap.f (rd x181 x183) x465000).bind fun t501 => (if (rd x10 x183) = t501 then (laws_FnFiltersInWords.l1 k x1 x6 x8 x9 x10 x14 x18 x181 x182 (wrap64 (x183 + 1)) x465000 x465001) else (some false))) else (none)) else (laws_FnFiltersInWords.l1 k x1 x6 x8 x9 x10 x14 x18 x181 x182 (wrap64 (x183 + 1)) x465000 x465001)) else (laws_FnFiltersInWords.l1 k x1 x6 x8 x9 x10 x14 x18 x181 x182 (wrap64 (x183 + 1)) x465000 x465001)) else (some false)) else (none)) else (some false)) else (some false)))) else (none)) else (none)) else ((impl_BitsNeeded.f k x6 x465000 x465001).bind fun bt502 => (if bt502.2 = true then (if bt502.1 ≤ x465000 then (if x8 = 0 then ((laws_iSame.f k x10 x18).bind fun t504 => (if t504 = true then ((laws_iSame.f k x14 x18).bind fun t505 => (if t505 = true then (laws_FnFiltersInWords.j4 k x1) else (some false))) else (some false))) else (laws_FnFiltersInWords.j4 k x1)) else (laws_FnFiltersInWords.j4 k x1)) else (laws_FnFiltersInWords.j4 k x1)))
end
def laws_FnFiltersInWords.f (k : Nat) (l0 : List Int) (l1 : List Int) : Option (Bool) := (laws_big.f l0 l1).bind fun t453 => (if t453 = true then (some true) else ((spec_DrawFilterInWord.f k l0).bind fun bt454 => ((impl_FilterInWord.f k bt454.1 bt454.2.1 bt454.2.2.1 bt454.2.2.2.1 bt454.2.2.2.2.1 bt454.2.2.2.2.2).bind fun bt465 => ((spec_FilterInWord.f k bt454.1 bt454.2.1 bt454.2.2.1 bt454.2.2.2.1 bt454.2.2.2.2.1 bt454.2.2.2.2.2).bind fun bt469 => ((impl_FilterAtEnd.f k bt454.1 bt454.2.1 bt454.2.2.1 bt454.2.2.2.1 bt454.2.2.2.2.1 bt454.2.2.2.2.2).bind fun bt473 => ((spec_FilterAtEnd.f k bt454.1 bt454.2.1 bt454.2.2.1 bt454.2.2.2.1 bt454.2.2.2.2.1 bt454.2.2.2.2.2).bind fun bt477 => (if (bt465.2 != bt469.2) = true then (laws_FnFiltersInWords.j0 k l1 bt454.2.2.1 bt454.2.2.2.1 bt454.2.2.2.2.1 bt454.2.2.2.2.2 bt465.1 bt465.2 bt473.1 true bt454.1 bt454.2.1) else ((laws_iSame.f k bt465.1 bt469.1).bind fun t481 => (if t481 = true then (if (bt473.2 != bt477.2) = true then (laws_FnFiltersInWords.j0 k l1 bt454.2.2.1 bt454.2.2.2.1 bt454.2.2.2.2.1 bt454.2.2.2.2.2 bt465.1 bt465.2 bt473.1 true bt454.1 bt454.2.1) else ((laws_iSame.f k bt473.1 bt477.1).bind fun t482 => (if t482 = true then (laws_FnFiltersInWords.j0 k l1 bt454.2.2.1 bt454.2.2.2.1 bt454.2.2.2.2.1 bt454.2.2.2.2.2 bt465.1 bt465.2 bt473.1 (bt473.2 != bt465.2) bt454.1 bt454.2.1) else (laws_FnFiltersInWords.j0 k l1 bt454.2.2.1 bt454.2.2.2.1 bt454.2.2.2.2.1 bt454.2.2.2.2.2 bt465.1 bt465.2 bt473.1 true bt454.1 bt454.2.1)))) else (laws_FnFiltersInWords.j0 k l1 bt454.2.2.1 bt454.2.2.2.1 bt454.2.2.2.2.1 bt454.2.2.2.2.2 bt465.1 bt465.2 bt473.1 true bt454.1 bt454.2.1))))))))))
theorem laws_FnFiltersInWords.mono_l : ∀ k, (∀ y0 y1 y2 y3 y4 y5 y6 y7 y8 y9 y10, LeO (laws_FnFiltersInWords.j0 k y0 y1 y2 y3 y4 y5 y6 y7 y8 y9 y10) (laws_FnFiltersInWords.j0 (k + 1) y0 y1 y2 y3 y4 y5 y6 y7 y8 y9 y10)) ∧ (∀ y0, LeO (laws_FnFiltersInWords.j4 k y0) (laws_FnFiltersInWords.j4 (k + 1) y0)) ∧ (∀ y0 y1 y2 y3 y4 y5, LeO (laws_FnFiltersInWords.j5 k y0 y1 y2 y3 y4 y5) (laws_FnFiltersInWords.j5 (k + 1) y0 y1 y2 y3 y4 y5)) ∧ (∀ y0 y1 y2 y3 y4 y5 y6 y7 y8 y9 y10 y11 y12, LeO (laws_FnFiltersInWords.j1 k y0 y1 y2 y3 y4 y5 y6 y7 y8 y9 y10 y11 y12) (laws_FnFiltersInWords.j1 (k + 1) y0 y1 y2 y3 y4 y5 y6 y7 y8 y9 y10 y11 y12)) ∧ (∀ y0 y1 y2 y3 y4 y5 y6 y7 y8 y9 y10 y11 y12 y13, LeO (laws_FnFiltersInWords.l0 k y0 y1 y2 y3 y4 y5 y6 y7 y8 y9 y10 y11 y12 y13) (laws_FnFiltersInWords.l0 (k + 1) y0 y1 y2 y3 y4 y5 y6 y7 y8 y9 y10 y11 y12 y13)) ∧ (∀ y0 y1 y2 y3 y4 y5 y6 y7 y8 y9 y10 y11, LeO (laws_FnFiltersInWords.l1 k y0 y1 y2 y3 y4 y5 y6 y7 y8 y9 y10 y11) (laws_FnFiltersInWords.l1 (k + 1) y0 y1 y2 y3 y4 y5 y6 y7 y8 y9 y10 y11))
 | 0 => ⟨fun _ _ _ _ _ _ _ _ _ _ _ r h => by simp [laws_FnFiltersInWords.j0] at h, fun _ r h => by simp [laws_FnFiltersInWords.j4] at h, fun _ _ _ _ _ _ r h => by simp [laws_FnFiltersInWords.j5] at h, fun _ _ _ _ _ _ _ _ _ _ _ _ _ r h => by simp [laws_FnFiltersInWords.j1] at h, fun _ _ _ _ _ _ _ _ _ _ _ _ _ _ r h => by simp [laws_FnFiltersInWords.l0] at h, fun _ _ _ _ _ _ _ _ _ _ _ _ r h => by simp [laws_FnFiltersInWords.l1] at h⟩
 | k + 1 => by
  obtain ⟨ih0, ih1, ih2, ih3, ih4, ih5⟩ := laws_FnFiltersInWords.mono_l k
  have m0 := @impl_BitsNeeded.mono
  have m1 := @impl_FilterAtEnd.mono
  have m2 := @impl_FilterInWord.mono
  have m3 := @impl_FilterShort.mono
  have m4 := @impl_RoundShift.mono
  have m5 := @impl_SizeGain.mono
  have m6 := @laws_iSame.mono
  have m7 := @spec_BitsNeeded.mono
  have m8 := @spec_DrawBitsNeeded.mono
  have m9 := @spec_DrawFilterInWord.mono
  have m10 := @spec_FilterAtEnd.mono
  have m11 := @spec_FilterInWord.mono
  refine ⟨?_, ?_, ?_, ?_, ?_, ?_⟩ <;> intros
  ·unfold laws_FnFiltersInWords.j0; exact xM
  ·unfold laws_FnFiltersInWords.j4; exact xM
  ·unfold laws_FnFiltersInWords.j5; exact xM
  ·unfold laws_FnFiltersInWords.j1; exact xM
  ·unfold laws_FnFiltersInWords.l0; exact xM
  ·unfold laws_FnFiltersInWords.l1; exact xM
theorem laws_FnFiltersInWords.mono : ∀ a0 a1 k, LeO (laws_FnFiltersInWords.f k a0 a1) (laws_FnFiltersInWords.f (k + 1) a0 a1) := by
 intro a0 a1 k
 obtain ⟨ih0, ih1, ih2, ih3, ih4, ih5⟩ := laws_FnFiltersInWords.mono_l k
 have m0 := @impl_BitsNeeded.mono
 have m1 := @impl_FilterAtEnd.mono
 have m2 := @impl_FilterInWord.mono
 have m3 := @impl_FilterShort.mono
 have m4 := @impl_RoundShift.mono
 have m5 := @impl_SizeGain.mono
 have m6 := @laws_iSame.mono
 have m7 := @spec_BitsNeeded.mono
 have m8 := @spec_DrawBitsNeeded.mono
 have m9 := @spec_DrawFilterInWord.mono
 have m10 := @spec_FilterAtEnd.mono
 have m11 := @spec_FilterInWord.mono
 unfold laws_FnFiltersInWords.f
 exact xM
def laws_FnFiltersInWords.T27 : Bool × List (List Nat × List Nat) := (true, [([], []), ([0], [0]), ([1], [1]), ([2], [2]), ([3, 2], [2, 3]), ([2, 4], [2, 4]), ([5, 2], [5]), ([6], [6]), ([6], [6]), ([7, 8, 6], [6, 7, 8]), ([9, 6], [6, 9]), ([6], [6]), ([10, 11, 6], [6, 10, 11]), ([6, 12], [6, 12]), ([13, 6], [13]), ([14], [14]), ([15, 14], [14, 15]), ([16, 14, 14], [14, 16]), ([17], [17]), ([18, 17], [17, 18]), ([17, 19, 14], [14, 17, 19]), ([20, 17, 14], [14, 20]), ([21], [21]), ([21], [21]), ([22, 23, 21], [21, 22, 23]), ([24, 21], [21, 24]), ([21], [21]), ([21], [21]), ([27, 21], [21, 27]), ([26, 28, 21, 21], [21, 26, 28]), ([25, 29, 21], [21, 25, 29]), ([21, 30, 14], [14, 21, 30]), ([14, 31], [14, 31])])
def laws_FnFiltersInWords.B27 : List Nat := [0, 1, 3, 7, 15, 31, 63, 127, 127, 511, 1023, 127, 4095, 8191, 16383, 32767, 65535, 131071, 262143, 524287, 1048575, 2097151, 4194303, 4194303, 16777215, 33554431, 4194303, 4194303, 138412031, 473956351, 1073741823, 2147483647, 4294967295]
theorem laws_FnFiltersInWords.tab27 : rtab .any (opsOf Try.f5 27) = laws_FnFiltersInWords.T27 := by kernel_rfl
theorem laws_FnFiltersInWords.bits27 : waitsOk laws_FnFiltersInWords.T27.2 laws_FnFiltersInWords.B27 = true := by kernel_rfl
set_option maxHeartbeats 200000000 in
set_option maxRecDepth 100000 in
theorem laws_FnFiltersInWords.calls (k : Nat) (A0 : Option Addr) (c0 : Nat) (l0 : List Int) (A1 : Option Addr) (c1 : Nat) (l1 : List Int) (r : Bool) (w : World) (hr0 : Kd.C (Kd.int .u8) w A0 l0.length l0) (hc0 : l0.length ≤ c0) (hr1 : Kd.C (Kd.int .u8) w A1 l1.length l1) (hc1 : l1.length ≤ c1) (h : laws_FnFiltersInWords.f k l0 l1 = some r) (hr_ : r = true) :
  Calls Try.prog 5 #[.slice A0 l0.length c0, .slice A1 l1.length c1] w fun e w' => e = .returned (.bool r) ∧ Below w.heap.size w w' := by
 have HRT := Aside0.mk hr_
 clear hr_
 have hu46 := Try.underlying46
 have HR0 := Aside0.mk hr0
 have HC0 := Aside0.mk hc0
 clear hr0 hc0
 have HR1 := Aside0.mk hr1
 have HC1 := Aside0.mk hc1
 clear hr1 hc1
 have HB := Aside0.mk (Below.refl w.heap.size w)
 have H : ((laws_big.f l0 l1).bind fun t453 => (if t453 = true then (some true) else ((spec_DrawFilterInWord.f k l0).bind fun bt454 => ((impl_FilterInWord.f k bt454.1 bt454.2.1 bt454.2.2.1 bt454.2.2.2.1 bt454.2.2.2.2.1 bt454.2.2.2.2.2).bind fun bt465 => ((spec_FilterInWord.f k bt454.1 bt454.2.1 bt454.2.2.1 bt454.2.2.2.1 bt454.2.2.2.2.1 bt454.2.2.2.2.2).bind fun bt469 => ((impl_FilterAtEnd.f k bt454.1 bt454.2.1 bt454.2.2.1 bt454.2.2.2.1 bt454.2.2.2.2.1 bt454.2.2.2.2.2).bind fun bt473 => ((spec_FilterAtEnd.f k bt454.1 bt454.2.1 bt454.2.2.1 bt454.2.2.2.1 bt454.2.2.2.2.1 bt454.2.2.2.2.2).bind fun bt477 => (if (bt465.2 != bt469.2) = true then (laws_FnFiltersInWords.j0 k l1 bt454.2.2.1 bt454.2.2.2.1 bt454.2.2.2.2.1 bt454.2.2.2.2.2 bt465.1 bt465.2 bt473.1 true bt454.1 bt454.2.1) else ((laws_iSame.f k bt465.1 bt469.1).bind fun t481 => (if t481 = true then (if (bt473.2 != bt477.2) = true then (laws_FnFiltersInWords.j0 k l1 bt454.2.2.1 bt454.2.2.2.1 bt454.2.2.2.2.1 bt454.2.2.2.2.2 bt465.1 bt465.2 bt473.1 true bt454.1 bt454.2.1) else ((laws_iSame.f k bt473.1 bt477.1).bind fun t482 => (if t482 = true then (laws_FnFiltersInWords.j0 k l1 bt454.2.2.1 bt454.2.2.2.1 bt454.2.2.2.2.1 bt454.2.2.2.2.2 bt465.1 bt465.2 bt473.1 (bt473.2 != bt465.2) bt454.1 bt454.2.1) else (laws_FnFiltersInWords.j0 k l1 bt454.2.2.1 bt454.2.2.2.1 bt454.2.2.2.2.1 bt454.2.2.2.2.2 bt465.1 bt465.2 bt473.1 true bt454.1 bt454.2.1)))) else (laws_FnFiltersInWords.j0 k l1 bt454.2.2.1 bt454.2.2.2.1 bt454.2.2.2.2.1 bt454.2.2.2.2.2 bt465.1 bt465.2 bt473.1 true bt454.1 bt454.2.1))))))))))) = some r := h
 clear h
 obtain ⟨t453, A3, H⟩ := xO H
 (try dsimp only at H)
 by_cases c4 : t453 = true
 ·as_aux_lemma =>
   subst c4
   rw [if_pos rfl] at H
   obtain rfl := Option.some.inj H
   go_enter Try.func5, Try.ntmps5
   go_wp2_with (first | (refine xG (some 45) Try.func13 #[.slice A0 l0.length c0, .slice A1 l1.length c1] ?_; (with_reducible refine (laws_big.calls _ _ l0 _ _ l1 true _ ?side1 ?side2 ?side3 ?side4 A3.out).mono ?_); (case side1 => exact xC HR0.out); (case side2 => exact HC0.out); (case side3 => exact xC HR1.out); (case side4 => exact HC1.out); rintro e w' ⟨rfl, ⟨nd, rfl⟩⟩; refine ⟨_, rfl, ?_⟩))
   go_ret
   exact ⟨by first | rfl | (simp [errW_none, errW_some] <;> rfl) | (simp [*, errW_none, errW_some] <;> rfl), xB HB.out⟩
 replace c4 := Bool.eq_false_iff.mpr c4
 subst c4
 rw [if_neg (show ¬ (false = true) by decide)] at H
 replace H := Option.bind_eq_some_iff.mp H
 obtain ⟨⟨t454, t455, t456, t459, t462, t463⟩, A50, H⟩ := H
 (try dsimp only at H)
 have A5 := Aside0.mk A50
 clear A50
 replace H := Option.bind_eq_some_iff.mp H
 obtain ⟨⟨t465, t468⟩, A60, H⟩ := H
 (try dsimp only at H)
 have A6 := Aside0.mk A60
 clear A60
 replace H := Option.bind_eq_some_iff.mp H
 obtain ⟨⟨t469, t472⟩, A70, H⟩ := H
 (try dsimp only at H)
 have A7 := Aside0.mk A70
 clear A70
 replace H := Option.bind_eq_some_iff.mp H
 obtain ⟨⟨t473, t476⟩, A80, H⟩ := H
 (try dsimp only at H)
 have A8 := Aside0.mk A80
 clear A80
 replace H := Option.bind_eq_some_iff.mp H
 obtain ⟨⟨t477, t480⟩, A90, H⟩ := H
 (try dsimp only at H)
 have A9 := Aside0.mk A90
 clear A90
 have HC10 := Aside0.mk H
 clear H
 go_enter Try.func5, Try.ntmps5
 go_upto_region 8 with (first | (refine xG (some 45) Try.func13 #[.slice A0 l0.length c0, .slice A1 l1.length c1] ?_; (with_reducible refine (laws_big.calls _ _ l0 _ _ l1 false _ ?side1 ?side2 ?side3 ?side4 A3.out).mono ?_); (case side1 => exact xC HR0.out); (case side2 => exact HC0.out); (case side3 => exact xC HR1.out); (case side4 => exact HC1.out); rintro e w' ⟨rfl, ⟨nd, rfl⟩⟩; refine ⟨_, rfl, ?_⟩) | (refine xG (some 48) Try.func54 #[.slice A0 l0.length c0] ?_; (with_reducible refine (spec_DrawFilterInWord.calls k _ _ l0 t454 t455 t456 t459 t462 t463 _ ?side1 ?side2 A5.out).mono ?_); (case side1 => exact xC HR0.out); (case side2 => exact HC0.out); rintro e w11 ⟨v457, v460, rfl, ho0, ho1, hb⟩; refine ⟨_, rfl, ?_⟩; have HO458 := Aside0.mk (Kd.R_lower ho0 (below_size (xB HB.out))); have HO461 := Aside0.mk (Kd.R_lower ho1 (below_size (xB HB.out))); replace HB := Aside0.mk (below_step (xB HB.out) hb); (try clear hb); (try clear hb2); (try clear hk); (try clear hi); (try clear ho0); (try clear ho1)) | ((with_reducible refine gate_dst (N := 5) rfl ?_); (try (refine gate_guard (by rfl) ?_; dsimp only)); refine box_event ?hg (N := 5) ?hd (cs := #[.int .i64 0, .bool false]) (t := 46) ?hr ?_; (case hd => rfl); (case hg => rfl); (case hr => first | (go_simp; done) | (go_simp; rfl)); intro gb464 hg w12 hbox hb; replace HO458 := Aside0.mk (Kd.R_below (xR HO458.out) hb); replace HO461 := Aside0.mk (Kd.R_below (xR HO461.out) hb); have BK464 := Aside0.mk (hbox); have GW464 := Aside0.mk ((by rw [hg]; exact (below_size (xB HB.out)) : w.heap.size ≤ gb464)); have GE464 := Aside0.mk ((by rw [hg]; exact (below_size (xB HB.out)) : w.heap.size ≤ gb464)); replace HB := Aside0.mk (below_step (xB HB.out) hb); clear hb hbox hg; have hcz13_0 : w12.cell? ⟨gb464, 0, none⟩ = some (.int .i64 0) := (blk_cell BK464.out 0).trans rfl; have hcz13_1 : w12.cell? ⟨gb464, 1, none⟩ = some (.bool false) := (blk_cell BK464.out 1).trans rfl; have hfz13_0 := blk_frozen BK464.out 0; have hfz13_1 := blk_frozen BK464.out 1; obtain ⟨Ao14, co14, eo14⟩ := Kd.R_slice HO458.out; subst eo14; obtain ⟨Ao15, co15, eo15⟩ := Kd.R_slice HO461.out; subst eo15) | (refine xG (some 60) Try.func55 #[.agg #[.int .i64 t454, .bool t455], .slice Ao14 t456.length co14, .slice Ao15 t459.length co15, .int .i64 t462, .int .i64 t463] ?_; (with_reducible refine (impl_FilterInWord.calls k t454 t455 _ _ t456 _ _ t459 t462 t463 t465 t468 _ ?side1 ?side2 ?side3 ?side4 A6.out).mono ?_); (case side1 => refine (Kd.R_reads' (e := 3) (base := w.heap.size) (ok := fun k_ => some k_ ≠ (.slice Ao15 t459.length co15 : Value).ownBlock) (n := t456.length) (c := co14) ?_).2.2; exact (by (with_reducible repeat (first | apply Kd.R_alloc | apply Kd.R_drewN | apply Kd.R_drew)); exact (Kd.R_mono (Kd.R_far (p := ⟨gb464, 1, none⟩) (Kd.R_far (p := ⟨gb464, 0, none⟩) (Kd.R_types HO458.out BK464.out (by decide)) (fun _ hk => hk.2) (.int .i64 t454)) (fun _ hk => hk.2) (.bool t455)) (fun _ h_ => h_.1)))); (case side2 => exact (Kd.R_reads' HO458.out).2.1); (case side3 => refine (Kd.R_reads' (e := 3) (base := w.heap.size) (ok := fun k_ => some k_ ≠ (.slice Ao14 t456.length co14 : Value).ownBlock) (n := t459.length) (c := co15) ?_).2.2; exact (by (with_reducible repeat (first | apply Kd.R_alloc | apply Kd.R_drewN | apply Kd.R_drew)); exact (Kd.R_mono (Kd.R_far (p := ⟨gb464, 1, none⟩) (Kd.R_far (p := ⟨gb464, 0, none⟩) (Kd.R_types HO461.out BK464.out (by decide)) (fun _ hk => hk.2) (.int .i64 t454)) (fun _ hk => hk.2) (.bool t455)) (fun _ h_ => h_.1)))); (case side4 => exact (Kd.R_reads' HO461.out).2.1); rintro e w16 ⟨v466, rfl, ho0, hb⟩; refine ⟨_, rfl, ?_⟩; have HO467 := Aside0.mk (Kd.R_lower (Kd.R_new' (Kd.R_new' ho0 (Kd.R_lt (by (with_reducible repeat (first | apply Kd.R_alloc | apply Kd.R_drewN | apply Kd.R_drew)); exact (Kd.R_mono (Kd.R_far (p := ⟨gb464, 1, none⟩) (Kd.R_far (p := ⟨gb464, 0, none⟩) (Kd.R_types HO458.out BK464.out (by decide)) (fun _ hk => hk.2) (.int .i64 t454)) (fun _ hk => hk.2) (.bool t455)) (fun _ h_ => h_.1))))) (Kd.R_lt (by (with_reducible repeat (first | apply Kd.R_alloc | apply Kd.R_drewN | apply Kd.R_drew)); exact (Kd.R_mono (Kd.R_far (p := ⟨gb464, 1, none⟩) (Kd.R_far (p := ⟨gb464, 0, none⟩) (Kd.R_types HO461.out BK464.out (by decide)) (fun _ hk => hk.2) (.int .i64 t454)) (fun _ hk => hk.2) (.bool t455)) (fun _ h_ => h_.1))))) (below_size (by repeat (first | (with_reducible first | exact HB.out | apply below_alloc | apply pw_below_drewN | apply below_drew1 | refine below_set ?_ GE464.out) | exact HB.out)))); replace HO458 := Aside0.mk (Kd.R_elder' (by (with_reducible repeat (first | apply Kd.R_alloc | apply Kd.R_drewN | apply Kd.R_drew)); exact (Kd.R_mono (Kd.R_far (p := ⟨gb464, 1, none⟩) (Kd.R_far (p := ⟨gb464, 0, none⟩) (Kd.R_types HO458.out BK464.out (by decide)) (fun _ hk => hk.2) (.int .i64 t454)) (fun _ hk => hk.2) (.bool t455)) (fun _ h_ => h_.1))) (Kd.R_base ho0) hb); replace HO461 := Aside0.mk (Kd.R_elder' (by (with_reducible repeat (first | apply Kd.R_alloc | apply Kd.R_drewN | apply Kd.R_drew)); exact (Kd.R_mono (Kd.R_far (p := ⟨gb464, 1, none⟩) (Kd.R_far (p := ⟨gb464, 0, none⟩) (Kd.R_types HO461.out BK464.out (by decide)) (fun _ hk => hk.2) (.int .i64 t454)) (fun _ hk => hk.2) (.bool t455)) (fun _ h_ => h_.1))) (Kd.R_base ho0) hb); replace BK464 := Aside0.mk (blk_below (g := gb464) (o := .cells #[.int .i64 t454, .bool t455] 46 (0, 0)) (by (with_reducible repeat (first | refine blk_drewN ?_ _ | refine blk_drew ?_ | refine blk_alloc ?_ _)); refine blk_put (cs := #[.int .i64 t454, .bool false]) ?_ 1 _ rfl; (with_reducible repeat (first | refine blk_drewN ?_ _ | refine blk_drew ?_ | refine blk_alloc ?_ _)); refine blk_put (cs := #[.int .i64 0, .bool false]) ?_ 0 _ rfl; (with_reducible repeat (first | refine blk_drewN ?_ _ | refine blk_drew ?_ | refine blk_alloc ?_ _)); exact BK464.out) hb); replace HB := Aside0.mk (below_step (by repeat (first | (with_reducible first | exact HB.out | apply below_alloc | apply pw_below_drewN | apply below_drew1 | refine below_set ?_ GE464.out) | exact HB.out)) hb); (try clear hb); (try clear hb2); (try clear hk); (try clear hi); (try clear ho0); have hcz17_0 : w16.cell? ⟨gb464, 0, none⟩ = some (.int .i64 t454) := (blk_cell BK464.out 0).trans rfl; have hcz17_1 : w16.cell? ⟨gb464, 1, none⟩ = some (.bool t455) := (blk_cell BK464.out 1).trans rfl; have hfz17_0 := blk_frozen BK464.out 0; have hfz17_1 := blk_frozen BK464.out 1) | (refine xG (some 69) Try.func56 #[.agg #[.int .i64 t454, .bool t455], .slice Ao14 t456.length co14, .slice Ao15 t459.length co15, .int .i64 t462, .int .i64 t463] ?_; (with_reducible refine (spec_FilterInWord.calls k t454 t455 _ _ t456 _ _ t459 t462 t463 t469 t472 _ ?side1 ?side2 ?side3 ?side4 A7.out).mono ?_); (case side1 => exact xC ((Kd.R_reads' HO458.out).2.2)); (case side2 => exact (Kd.R_reads' HO458.out).2.1); (case side3 => exact xC ((Kd.R_reads' HO461.out).2.2)); (case side4 => exact (Kd.R_reads' HO461.out).2.1); rintro e w18 ⟨v470, rfl, ho0, hb⟩; refine ⟨_, rfl, ?_⟩; have HO471 := Aside0.mk (Kd.R_lower (Kd.R_new' (Kd.R_new' (Kd.R_new' ho0 (Kd.R_lt (xR HO458.out))) (Kd.R_lt (xR HO461.out))) (Kd.R_lt (xR HO467.out))) (below_size (by repeat (first | (with_reducible first | exact HB.out | apply below_alloc | apply pw_below_drewN | apply below_drew1 | refine below_set ?_ GE464.out) | exact HB.out)))); replace HO458 := Aside0.mk (Kd.R_elder' (xR HO458.out) (Kd.R_base ho0) hb); replace HO461 := Aside0.mk (Kd.R_elder' (xR HO461.out) (Kd.R_base ho0) hb); replace HO467 := Aside0.mk (Kd.R_elder' (xR HO467.out) (Kd.R_base ho0) hb); replace BK464 := Aside0.mk (blk_below (g := gb464) (o := .cells #[.int .i64 t454, .bool t455] 46 (0, 0)) (by (with_reducible repeat (first | refine blk_drewN ?_ _ | refine blk_drew ?_ | refine blk_alloc ?_ _)); exact BK464.out) hb); replace HB := Aside0.mk (below_step (by repeat (first | (with_reducible first | exact HB.out | apply below_alloc | apply pw_below_drewN | apply below_drew1 | refine below_set ?_ GE464.out) | exact HB.out)) hb); (try clear hb); (try clear hb2); (try clear hk); (try clear hi); (try clear ho0); have hcz19_0 : w18.cell? ⟨gb464, 0, none⟩ = some (.int .i64 t454) := (blk_cell BK464.out 0).trans rfl; have hcz19_1 : w18.cell? ⟨gb464, 1, none⟩ = some (.bool t455) := (blk_cell BK464.out 1).trans rfl; have hfz19_0 := blk_frozen BK464.out 0; have hfz19_1 := blk_frozen BK464.out 1) | (refine xG (some 78) Try.func57 #[.agg #[.int .i64 t454, .bool t455], .slice Ao14 t456.length co14, .slice Ao15 t459.length co15, .int .i64 t462, .int .i64 t463] ?_; (with_reducible refine (impl_FilterAtEnd.calls k t454 t455 _ _ t456 _ _ t459 t462 t463 t473 t476 _ ?side1 ?side2 ?side3 ?side4 A8.out).mono ?_); (case side1 => exact xC ((Kd.R_reads' HO458.out).2.2)); (case side2 => exact (Kd.R_reads' HO458.out).2.1); (case side3 => exact xC ((Kd.R_reads' HO461.out).2.2)); (case side4 => exact (Kd.R_reads' HO461.out).2.1); rintro e w20 ⟨v474, rfl, ho0, hb⟩; refine ⟨_, rfl, ?_⟩; have HO475 := Aside0.mk (Kd.R_lower (Kd.R_new' (Kd.R_new' (Kd.R_new' (Kd.R_new' ho0 (Kd.R_lt (xR HO458.out))) (Kd.R_lt (xR HO461.out))) (Kd.R_lt (xR HO467.out))) (Kd.R_lt (xR HO471.out))) (below_size (by repeat (first | (with_reducible first | exact HB.out | apply below_alloc | apply pw_below_drewN | apply below_drew1 | refine below_set ?_ GE464.out) | exact HB.out)))); replace HO458 := Aside0.mk (Kd.R_elder' (xR HO458.out) (Kd.R_base ho0) hb); replace HO461 := Aside0.mk (Kd.R_elder' (xR HO461.out) (Kd.R_base ho0) hb); replace HO467 := Aside0.mk (Kd.R_elder' (xR HO467.out) (Kd.R_base ho0) hb); replace HO471 := Aside0.mk (Kd.R_elder' (xR HO471.out) (Kd.R_base ho0) hb); replace BK464 := Aside0.mk (blk_below (g := gb464) (o := .cells #[.int .i64 t454, .bool t455] 46 (0, 0)) (by (with_reducible repeat (first | refine blk_drewN ?_ _ | refine blk_drew ?_ | refine blk_alloc ?_ _)); exact BK464.out) hb); replace HB := Aside0.mk (below_step (by repeat (first | (with_reducible first | exact HB.out | apply below_alloc | apply pw_below_drewN | apply below_drew1 | refine below_set ?_ GE464.out) | exact HB.out)) hb); (try clear hb); (try clear hb2); (try clear hk); (try clear hi); (try clear ho0); have hcz21_0 : w20.cell? ⟨gb464, 0, none⟩ = some (.int .i64 t454) := (blk_cell BK464.out 0).trans rfl; have hcz21_1 : w20.cell? ⟨gb464, 1, none⟩ = some (.bool t455) := (blk_cell BK464.out 1).trans rfl; have hfz21_0 := blk_frozen BK464.out 0; have hfz21_1 := blk_frozen BK464.out 1) | (refine xG (some 87) Try.func58 #[.agg #[.int .i64 t454, .bool t455], .slice Ao14 t456.length co14, .slice Ao15 t459.length co15, .int .i64 t462, .int .i64 t463] ?_; (with_reducible refine (spec_FilterAtEnd.calls k t454 t455 _ _ t456 _ _ t459 t462 t463 t477 t480 _ ?side1 ?side2 ?side3 ?side4 A9.out).mono ?_); (case side1 => exact xC ((Kd.R_reads' HO458.out).2.2)); (case side2 => exact (Kd.R_reads' HO458.out).2.1); (case side3 => exact xC ((Kd.R_reads' HO461.out).2.2)); (case side4 => exact (Kd.R_reads' HO461.out).2.1); rintro e w22 ⟨v478, rfl, ho0, hb⟩; refine ⟨_, rfl, ?_⟩; have HO479 := Aside0.mk (Kd.R_lower (Kd.R_new' (Kd.R_new' (Kd.R_new' (Kd.R_new' (Kd.R_new' ho0 (Kd.R_lt (xR HO458.out))) (Kd.R_lt (xR HO461.out))) (Kd.R_lt (xR HO467.out))) (Kd.R_lt (xR HO471.out))) (Kd.R_lt (xR HO475.out))) (below_size (by repeat (first | (with_reducible first | exact HB.out | apply below_alloc | apply pw_below_drewN | apply below_drew1 | refine below_set ?_ GE464.out) | exact HB.out)))); replace HO458 := Aside0.mk (Kd.R_elder' (xR HO458.out) (Kd.R_base ho0) hb); replace HO461 := Aside0.mk (Kd.R_elder' (xR HO461.out) (Kd.R_base ho0) hb); replace HO467 := Aside0.mk (Kd.R_elder' (xR HO467.out) (Kd.R_base ho0) hb); replace HO471 := Aside0.mk (Kd.R_elder' (xR HO471.out) (Kd.R_base ho0) hb); replace HO475 := Aside0.mk (Kd.R_elder' (xR HO475.out) (Kd.R_base ho0) hb); replace BK464 := Aside0.mk (blk_below (g := gb464) (o := .cells #[.int .i64 t454, .bool t455] 46 (0, 0)) (by (with_reducible repeat (first | refine blk_drewN ?_ _ | refine blk_drew ?_ | refine blk_alloc ?_ _)); exact BK464.out) hb); replace HB := Aside0.mk (below_step (by repeat (first | (with_reducible first | exact HB.out | apply below_alloc | apply pw_below_drewN | apply below_drew1 | refine below_set ?_ GE464.out) | exact HB.out)) hb); (try clear hb); (try clear hb2); (try clear hk); (try clear hi); (try clear ho0)))
 (try simp only [Act.put, List.setIfInBounds_toArray, List.set_cons_zero, List.set_cons_succ])
 go_cut [114] (fun v114 wc => ∃ (kq : Nat) (x114_9 : Bool), v114 = .bool x114_9 ∧ Aside0 (laws_FnFiltersInWords.j0 kq l1 t456 t459 t462 t463 t465 t468 t473 x114_9 t454 t455 = some r) ∧ Aside0 (kq ≤ k) ∧ Aside0 (Kd.R (Kd.int .i64) 3 wc w.heap.size (fun k_ => some k_ ≠ ((.slice Ao15 t459.length co15) : Value).ownBlock ∧ some k_ ≠ (v466 : Value).ownBlock ∧ some k_ ≠ (v474 : Value).ownBlock) (.slice Ao14 t456.length co14) t456) ∧ Aside0 (Kd.R (Kd.int .i64) 3 wc w.heap.size (fun k_ => some k_ ≠ ((.slice Ao14 t456.length co14) : Value).ownBlock ∧ some k_ ≠ (v466 : Value).ownBlock ∧ some k_ ≠ (v474 : Value).ownBlock) (.slice Ao15 t459.length co15) t459) ∧ Aside0 (Kd.R (Kd.int .i64) 3 wc w.heap.size (fun k_ => some k_ ≠ ((.slice Ao14 t456.length co14) : Value).ownBlock ∧ some k_ ≠ ((.slice Ao15 t459.length co15) : Value).ownBlock ∧ some k_ ≠ (v474 : Value).ownBlock) v466 t465) ∧ Aside0 (Kd.R (Kd.int .i64) 3 wc w.heap.size (fun k_ => some k_ ≠ ((.slice Ao14 t456.length co14) : Value).ownBlock ∧ some k_ ≠ ((.slice Ao15 t459.length co15) : Value).ownBlock ∧ some k_ ≠ (v466 : Value).ownBlock) v474 t473) ∧ Aside0 (wc.heap[gb464]? = some (.cells #[.int .i64 t454, .bool t455] 46 (0, 0))) ∧ Aside0 (Below w.heap.size w wc))
 case first => as_aux_lemma =>
  have H := HC10.out
  clear HC10
  by_cases c23 : (t468 != t472) = true
  ·rw [if_pos c23] at H; exact absurd H (by have hr_ := HRT.out; cases k <;> simp [laws_FnFiltersInWords.j0, hr_])
  rw [if_neg c23] at H
  have c23b0 : (t468 != t472) = false := by simpa using c23
  (try (have c23b1 : decide (t468 = t472) = true := by simpa using c23))
  (try (have c23b2 : (t468 == t472) = true := by simpa using c23))
  clear c23
  (first | rw [c23b0] | (simp only [i64_w, i32_w]; rw [c23b0]) | skip)
  obtain ⟨t481, A24, H⟩ := xO H
  (try dsimp only at H)
  by_cases c25 : t481 = true
  rotate_left
  ·replace c25 := Bool.eq_false_iff.mpr c25; subst c25; exact absurd H (by have hr_ := HRT.out; cases k <;> simp [laws_FnFiltersInWords.j0, hr_])
  as_aux_lemma =>
   subst c25
   rw [if_pos rfl] at H
   by_cases c26 : (t476 != t480) = true
   ·rw [if_pos c26] at H; exact absurd H (by have hr_ := HRT.out; cases k <;> simp [laws_FnFiltersInWords.j0, hr_])
   rw [if_neg c26] at H
   have c26b0 : (t476 != t480) = false := by simpa using c26
   (try (have c26b1 : decide (t476 = t480) = true := by simpa using c26))
   (try (have c26b2 : (t476 == t480) = true := by simpa using c26))
   clear c26
   obtain ⟨t482, A27, H⟩ := xO H
   (try dsimp only at H)
   by_cases c28 : t482 = true
   rotate_left
   ·replace c28 := Bool.eq_false_iff.mpr c28; subst c28; exact absurd H (by have hr_ := HRT.out; cases k <;> simp [laws_FnFiltersInWords.j0, hr_])
   subst c28
   rw [if_pos rfl] at H
   have H' := Aside0.mk H
   clear H
   obtain ⟨Ao29, co29, eo29⟩ := Kd.R_slice HO467.out
   subst eo29
   obtain ⟨Ao30, co30, eo30⟩ := Kd.R_slice HO471.out
   subst eo30
   go_wp2_with (first | (go_at_call 21; (with_reducible refine (laws_iSame.calls k _ _ t465 _ _ t469 true _ ?side1 ?side2 ?side3 ?side4 A24.out).mono ?_); (case side1 => exact xC ((Kd.R_reads' HO467.out).2.2)); (case side2 => exact (Kd.R_reads' HO467.out).2.1); (case side3 => exact xC ((Kd.R_reads' HO471.out).2.2)); (case side4 => exact (Kd.R_reads' HO471.out).2.1); rintro e w' ⟨rfl, ⟨nd, rfl⟩⟩; obtain ⟨Ao31, co31, eo31⟩ := Kd.R_slice HO475.out; subst eo31; obtain ⟨Ao32, co32, eo32⟩ := Kd.R_slice HO479.out; subst eo32) | (go_at_call 21; (with_reducible refine (laws_iSame.calls k _ _ t473 _ _ t477 true _ ?side1 ?side2 ?side3 ?side4 A27.out).mono ?_); (case side1 => exact xC ((Kd.R_reads' HO475.out).2.2)); (case side2 => exact (Kd.R_reads' HO475.out).2.1); (case side3 => exact xC ((Kd.R_reads' HO479.out).2.2)); (case side4 => exact (Kd.R_reads' HO479.out).2.1); rintro e w' ⟨rfl, ⟨nd, rfl⟩⟩))
   go_meet
   case rel => exact ⟨_, ((t476 != t468)), (by first | rfl | (simp; done) | (simp [*]; done)), H', ⟨by first | omega | exact Nat.le_refl _⟩, ⟨by (with_reducible repeat (first | apply Kd.R_alloc | apply Kd.R_drewN | apply Kd.R_drew)); exact Kd.R_mono HO458.out (fun _ hk => ⟨hk.1.1.1.1, ⟨hk.1.1.1.2, hk.1.2⟩⟩)⟩, ⟨by (with_reducible repeat (first | apply Kd.R_alloc | apply Kd.R_drewN | apply Kd.R_drew)); exact Kd.R_mono HO461.out (fun _ hk => ⟨hk.1.1.1.1, ⟨hk.1.1.1.2, hk.1.2⟩⟩)⟩, ⟨by (with_reducible repeat (first | apply Kd.R_alloc | apply Kd.R_drewN | apply Kd.R_drew)); exact Kd.R_mono HO467.out (fun _ hk => ⟨hk.1.1.1.1.2, ⟨hk.1.1.1.2, hk.1.2⟩⟩)⟩, ⟨by (with_reducible repeat (first | apply Kd.R_alloc | apply Kd.R_drewN | apply Kd.R_drew)); exact Kd.R_mono HO475.out (fun _ hk => ⟨hk.1.1.1.1.2, ⟨hk.1.1.1.2, hk.1.1.2⟩⟩)⟩, ⟨by (with_reducible repeat (first | refine blk_drewN ?_ _ | refine blk_drew ?_ | refine blk_alloc ?_ _)); exact BK464.out⟩, ⟨by repeat (first | (with_reducible first | exact HB.out | apply below_alloc | apply pw_below_drewN | apply below_drew1 | refine below_set ?_ GE464.out) | exact HB.out)⟩⟩
 case rest => as_aux_lemma =>
  clear HC10
  try clear c1
  try clear c4
  try clear hcz13_0
  try clear hcz13_1
  try clear hcz17_0
  try clear hcz17_1
  try clear hcz19_0
  try clear hcz19_1
  try clear hcz21_0
  try clear hcz21_1
  try clear hfz13_0
  try clear hfz13_1
  try clear hfz17_0
  try clear hfz17_1
  try clear hfz19_0
  try clear hfz19_1
  try clear hfz21_0
  try clear hfz21_1
  obtain ⟨kq, x114_9, rfl, HA, HJ9, HO_6, HO_7, HO_10, HO_14, BK464, HB⟩ := hcut
  cases kq with
  | zero => exact absurd HA.out (by simp [laws_FnFiltersInWords.j0])
  | succ kj9 =>
   have H := HA.out
   clear HA
   simp only [laws_FnFiltersInWords.j0] at H
   by_cases c33 : x114_9 = true
   ·as_aux_lemma =>
     subst c33
     rw [if_pos rfl] at H
     exact absurd ((Option.some.inj H).trans HRT.out) (by decide)
   replace c33 := Bool.eq_false_iff.mpr c33
   subst c33
   rw [if_neg (show ¬ (false = true) by decide)] at H
   have HC34 := Aside0.mk H
   clear H
   go_upto_if 115 with (fail)
   go_cut [] (fun wc => ∃ (kq : Nat), Aside0 (laws_FnFiltersInWords.j4 kq l1 = some r) ∧ Aside0 (kq ≤ kj9) ∧ Aside0 (wc.heap[gb464]? = some (.cells #[.int .i64 t454, .bool t455] 46 (0, 0))) ∧ Aside0 (Below w.heap.size w wc))
   case first => as_aux_lemma =>
    have H := HC34.out
    clear HC34
    by_cases c35 : t468 = true
    rotate_left
    ·as_aux_lemma =>
      replace c35 := Bool.eq_false_iff.mpr c35
      subst c35
      rw [if_neg (show ¬ (false = true) by decide)] at H
      have H' := Aside0.mk H
      clear H
      go_wp2
      go_meet
      case rel => exact ⟨_, H', ⟨by have := HJ9.out; first | omega | exact Nat.le_refl _⟩, ⟨by (with_reducible repeat (first | refine blk_drewN ?_ _ | refine blk_drew ?_ | refine blk_alloc ?_ _)); exact BK464.out⟩, ⟨by repeat (first | (with_reducible first | exact HB.out | apply below_alloc | apply pw_below_drewN | apply below_drew1 | refine below_set ?_ GE464.out) | exact HB.out)⟩⟩
    subst c35
    rw [if_pos rfl] at H
    replace H := Option.bind_eq_some_iff.mp H
    obtain ⟨⟨t483, t484⟩, A360, H⟩ := H
    (try dsimp only at H)
    have A36 := Aside0.mk A360
    clear A360
    replace H := Option.bind_eq_some_iff.mp H
    obtain ⟨⟨t487, t488, t489⟩, A370, H⟩ := H
    (try dsimp only at H)
    have A37 := Aside0.mk A370
    clear A370
    have HC38 := Aside0.mk H
    clear H
    go_upto_region 13 with (first | (refine xG (some 119) Try.func59 #[.slice Ao14 t456.length co14, .slice Ao15 t459.length co15] ?_; (with_reducible refine (impl_FilterShort.calls kj9 _ _ t456 _ _ t459 t483 t484 _ ?side1 ?side2 ?side3 ?side4 A36.out).mono ?_); (case side1 => exact xC ((Kd.R_reads' HO_6.out).2.2)); (case side2 => exact (Kd.R_reads' HO_6.out).2.1); (case side3 => exact xC ((Kd.R_reads' HO_7.out).2.2)); (case side4 => exact (Kd.R_reads' HO_7.out).2.1); rintro e w39 ⟨v485, rfl, ho0, hb⟩; refine ⟨_, rfl, ?_⟩; have HO486 := Aside0.mk (Kd.R_lower (Kd.R_new' (Kd.R_new' (Kd.R_new' (Kd.R_new' ho0 (Kd.R_lt (xR HO_6.out))) (Kd.R_lt (xR HO_7.out))) (Kd.R_lt (xR HO_10.out))) (Kd.R_lt (xR HO_14.out))) (below_size (by repeat (first | (with_reducible first | exact HB.out | apply below_alloc | apply pw_below_drewN | apply below_drew1 | refine below_set ?_ GE464.out) | exact HB.out)))); replace HO_6 := Aside0.mk (Kd.R_elder' (xR HO_6.out) (Kd.R_base ho0) hb); replace HO_7 := Aside0.mk (Kd.R_elder' (xR HO_7.out) (Kd.R_base ho0) hb); replace HO_10 := Aside0.mk (Kd.R_elder' (xR HO_10.out) (Kd.R_base ho0) hb); replace HO_14 := Aside0.mk (Kd.R_elder' (xR HO_14.out) (Kd.R_base ho0) hb); replace BK464 := Aside0.mk (blk_below (g := gb464) (o := .cells #[.int .i64 t454, .bool t455] 46 (0, 0)) (by (with_reducible repeat (first | refine blk_drewN ?_ _ | refine blk_drew ?_ | refine blk_alloc ?_ _)); exact BK464.out) hb); replace HB := Aside0.mk (below_step (by repeat (first | (with_reducible first | exact HB.out | apply below_alloc | apply pw_below_drewN | apply below_drew1 | refine below_set ?_ GE464.out) | exact HB.out)) hb); (try clear hb); (try clear hb2); (try clear hk); (try clear hi); (try clear ho0); have hcz40_0 : w39.cell? ⟨gb464, 0, none⟩ = some (.int .i64 t454) := (blk_cell BK464.out 0).trans rfl; have hcz40_1 : w39.cell? ⟨gb464, 1, none⟩ = some (.bool t455) := (blk_cell BK464.out 1).trans rfl; have hfz40_0 := blk_frozen BK464.out 0; have hfz40_1 := blk_frozen BK464.out 1) | (refine xG (some 124) Try.func60 #[.agg #[.int .i64 t454, .bool t455]] ?_; (with_reducible refine (impl_RangeOf.calls t454 t455 t487 t488 t489 _ A37.out).mono ?_); rintro e w41 ⟨rfl, hb⟩; refine ⟨_, rfl, ?_⟩; replace HO_6 := Aside0.mk (Kd.R_below (xR HO_6.out) hb); replace HO_7 := Aside0.mk (Kd.R_below (xR HO_7.out) hb); replace HO_10 := Aside0.mk (Kd.R_below (xR HO_10.out) hb); replace HO_14 := Aside0.mk (Kd.R_below (xR HO_14.out) hb); replace HO486 := Aside0.mk (Kd.R_below (xR HO486.out) hb); replace BK464 := Aside0.mk (blk_below (g := gb464) (o := .cells #[.int .i64 t454, .bool t455] 46 (0, 0)) (by (with_reducible repeat (first | refine blk_drewN ?_ _ | refine blk_drew ?_ | refine blk_alloc ?_ _)); exact BK464.out) hb); replace HB := Aside0.mk (below_step (by repeat (first | (with_reducible first | exact HB.out | apply below_alloc | apply pw_below_drewN | apply below_drew1 | refine below_set ?_ GE464.out) | exact HB.out)) hb); (try clear hb); (try clear hb2); (try clear hk); (try clear hi)))
    (try simp only [Act.put, List.setIfInBounds_toArray, List.set_cons_zero, List.set_cons_succ])
    go_cut [143] (fun v143 wc => ∃ (kq : Nat) (x143_37 : Bool), v143 = .bool x143_37 ∧ Aside0 (laws_FnFiltersInWords.j1 kq l1 t456 t462 t463 t465 t473 t483 t484 t487 t488 x143_37 t454 t455 = some r) ∧ Aside0 (kq ≤ kj9) ∧ Aside0 (Kd.R (Kd.int .i64) 3 wc w.heap.size (fun k_ => some k_ ≠ (v466 : Value).ownBlock ∧ some k_ ≠ (v474 : Value).ownBlock ∧ some k_ ≠ (v485 : Value).ownBlock) (.slice Ao14 t456.length co14) t456) ∧ Aside0 (Kd.R (Kd.int .i64) 3 wc w.heap.size (fun k_ => some k_ ≠ ((.slice Ao14 t456.length co14) : Value).ownBlock ∧ some k_ ≠ (v474 : Value).ownBlock ∧ some k_ ≠ (v485 : Value).ownBlock) v466 t465) ∧ Aside0 (Kd.R (Kd.int .i64) 3 wc w.heap.size (fun k_ => some k_ ≠ ((.slice Ao14 t456.length co14) : Value).ownBlock ∧ some k_ ≠ (v466 : Value).ownBlock ∧ some k_ ≠ (v485 : Value).ownBlock) v474 t473) ∧ Aside0 (Kd.R (Kd.int .i64) 3 wc w.heap.size (fun k_ => some k_ ≠ ((.slice Ao14 t456.length co14) : Value).ownBlock ∧ some k_ ≠ (v466 : Value).ownBlock ∧ some k_ ≠ (v474 : Value).ownBlock) v485 t483) ∧ Aside0 (wc.heap[gb464]? = some (.cells #[.int .i64 t454, .bool t455] 46 (0, 0))) ∧ Aside0 (Below w.heap.size w wc))
    case first => as_aux_lemma =>
     have H := HC38.out
     clear HC38
     by_cases c42 : t489 = true
     rotate_left
     ·replace c42 := Bool.eq_false_iff.mpr c42; subst c42; exact absurd H (by have hr_ := HRT.out; cases kj9 <;> simp [laws_FnFiltersInWords.j1, hr_])
     as_aux_lemma =>
      subst c42
      rw [if_pos rfl] at H
      by_cases c43 : (t465.length : Int) = (t459.length : Int)
      rotate_left
      ·rw [if_neg c43] at H; exact absurd H (by have hr_ := HRT.out; cases kj9 <;> simp [laws_FnFiltersInWords.j1, hr_])
      rw [if_pos c43] at H
      have c43b0 : ((t465.length : Int) == (t459.length : Int)) = true := beq_iff_eq.mpr c43
      have c43b1 : ((t465.length : Int) != (t459.length : Int)) = false := bne_eq_false_iff_eq.mpr c43
      have c43b2 : (t465.length == t459.length) = true := by first | simpa using c43 | (simp at c43 ⊢; omega)
      clear c43
      (first | rw [c43b0] | (simp only [i64_w, i32_w]; rw [c43b0]) | skip)
      have H' := Aside0.mk H
      clear H
      obtain ⟨Ao44, co44, eo44⟩ := Kd.R_slice HO_10.out
      subst eo44
      obtain ⟨Ao45, co45, eo45⟩ := Kd.R_slice HO_14.out
      subst eo45
      go_wp2
      go_meet
      case rel => exact ⟨_, (((t473.length : Int) != (t459.length : Int))), (by first | rfl | (simp; done) | (simp [*]; done)), H', ⟨by have := HJ9.out; first | omega | exact Nat.le_refl _⟩, ⟨by (with_reducible repeat (first | apply Kd.R_alloc | apply Kd.R_drewN | apply Kd.R_drew)); exact Kd.R_mono HO_6.out (fun _ hk => ⟨hk.1.2.1, ⟨hk.1.2.2, hk.2⟩⟩)⟩, ⟨by (with_reducible repeat (first | apply Kd.R_alloc | apply Kd.R_drewN | apply Kd.R_drew)); exact Kd.R_mono HO_10.out (fun _ hk => ⟨hk.1.1, ⟨hk.1.2.2, hk.2⟩⟩)⟩, ⟨by (with_reducible repeat (first | apply Kd.R_alloc | apply Kd.R_drewN | apply Kd.R_drew)); exact Kd.R_mono HO_14.out (fun _ hk => ⟨hk.1.1, ⟨hk.1.2.2, hk.2⟩⟩)⟩, ⟨by (with_reducible repeat (first | apply Kd.R_alloc | apply Kd.R_drewN | apply Kd.R_drew)); exact Kd.R_mono HO486.out (fun _ hk => ⟨hk.1.1.1.2, ⟨hk.1.2, hk.2⟩⟩)⟩, ⟨by (with_reducible repeat (first | refine blk_drewN ?_ _ | refine blk_drew ?_ | refine blk_alloc ?_ _)); exact BK464.out⟩, ⟨by repeat (first | (with_reducible first | exact HB.out | apply below_alloc | apply pw_below_drewN | apply below_drew1 | refine below_set ?_ GE464.out) | exact HB.out)⟩⟩
    case rest => as_aux_lemma =>
     clear HC38
     try clear c33
     try clear c35
     try clear hcz40_0
     try clear hcz40_1
     try clear hfz40_0
     try clear hfz40_1
     obtain ⟨kq, x143_37, rfl, HA, HJ37, HO_6, HO_10, HO_14, HO_18, BK464, HB⟩ := hcut
     cases kq with
     | zero => exact absurd HA.out (by simp [laws_FnFiltersInWords.j1])
     | succ kj37 =>
      have H := HA.out
      clear HA
      simp only [laws_FnFiltersInWords.j1] at H
      by_cases c46 : x143_37 = true
      ·as_aux_lemma =>
        subst c46
        rw [if_pos rfl] at H
        exact absurd ((Option.some.inj H).trans HRT.out) (by decide)
      replace c46 := Bool.eq_false_iff.mpr c46
      subst c46
      rw [if_neg (show ¬ (false = true) by decide)] at H
      have H' := Aside0.mk H
      clear H
      obtain ⟨Ao47, co47, eo47⟩ := Kd.R_slice HO_10.out
      subst eo47
      go_wp2
      go_loopg [146] kj37 (fun kq v146 w' => ∃ (x146_3 : Int), v146 = .int .i64 x146_3 ∧ Aside0 (laws_FnFiltersInWords.l0 kq l1 t456 t462 t463 t465 t473 t483 t484 t487 t488 (t465.length : Int) x146_3 t454 t455 = some r) ∧ Aside0 (kq ≤ kj37) ∧ Aside0 (Kd.R (Kd.int .i64) 3 w' w.heap.size (fun k_ => some k_ ≠ ((.slice Ao47 t465.length co47) : Value).ownBlock ∧ some k_ ≠ (v474 : Value).ownBlock ∧ some k_ ≠ (v485 : Value).ownBlock) (.slice Ao14 t456.length co14) t456) ∧ Aside0 (Kd.R (Kd.int .i64) 3 w' w.heap.size (fun k_ => some k_ ≠ ((.slice Ao14 t456.length co14) : Value).ownBlock ∧ some k_ ≠ (v474 : Value).ownBlock ∧ some k_ ≠ (v485 : Value).ownBlock) (.slice Ao47 t465.length co47) t465) ∧ Aside0 (Kd.R (Kd.int .i64) 3 w' w.heap.size (fun k_ => some k_ ≠ ((.slice Ao14 t456.length co14) : Value).ownBlock ∧ some k_ ≠ ((.slice Ao47 t465.length co47) : Value).ownBlock ∧ some k_ ≠ (v485 : Value).ownBlock) v474 t473) ∧ Aside0 (Kd.R (Kd.int .i64) 3 w' w.heap.size (fun k_ => some k_ ≠ ((.slice Ao14 t456.length co14) : Value).ownBlock ∧ some k_ ≠ ((.slice Ao47 t465.length co47) : Value).ownBlock ∧ some k_ ≠ (v474 : Value).ownBlock) v485 t483) ∧ Aside0 (w'.heap[gb464]? = some (.cells #[.int .i64 t454, .bool t455] 46 (0, 0))) ∧ Aside0 (Below w.heap.size w w'))
      case atStart => exact ⟨(0), (by first | rfl | (simp; done) | (simp [*]; done)), H', ⟨Nat.le_refl _⟩, ⟨xR HO_6.out⟩, ⟨xR HO_10.out⟩, ⟨xR HO_14.out⟩, ⟨xR HO_18.out⟩, ⟨by (with_reducible repeat (first | refine blk_drewN ?_ _ | refine blk_drew ?_ | refine blk_alloc ?_ _)); exact BK464.out⟩, ⟨by repeat (first | (with_reducible first | exact HB.out | apply below_alloc | apply pw_below_drewN | apply below_drew1 | refine below_set ?_ GE464.out) | exact HB.out)⟩⟩
      case round =>
       clear H'
       try clear c46
       obtain ⟨x146_3, rfl, HA, HK3, HO_6, HO_10, HO_14, HO_18, BK464, HB⟩ := hrel
       cases gk with
       | zero => exact absurd HA.out (by simp [laws_FnFiltersInWords.l0])
       | succ k3 =>
        have H := HA.out
        clear HA
        simp only [laws_FnFiltersInWords.l0] at H
        by_cases c48 : x146_3 < (t465.length : Int)
        ·rw [if_pos c48] at H
         have c48b0 : decide (x146_3 < (t465.length : Int)) = true := decide_eq_true c48
         clear c48
         by_cases c49 : 0 ≤ x146_3
         rotate_left
         ·rw [if_neg c49] at H
          exact absurd H (by simp)
         rw [if_pos c49] at H
         have c49b0 : decide (0 ≤ x146_3) = true := decide_eq_true c49
         clear c49
         by_cases c50 : x146_3 < (t465.length : Int)
         rotate_left
         ·rw [if_neg c50] at H
          exact absurd H (by simp)
         rw [if_pos c50] at H
         have c50b0 : decide (x146_3 < (t465.length : Int)) = true := decide_eq_true c50
         clear c50
         by_cases c51 : (rd t465 x146_3) < t487
         ·rw [if_pos c51] at H
          have c51b0 : decide ((rd t465 x146_3) < t487) = true := decide_eq_true c51
          clear c51
          exact absurd ((Option.some.inj H).trans HRT.out) (by decide)
         rw [if_neg c51] at H
         have c51b0 : decide ((rd t465 x146_3) < t487) = false := decide_eq_false c51
         clear c51
         by_cases c52 : (rd t465 x146_3) > t488
         ·rw [if_pos c52] at H
          have c52b0 : decide (t488 < (rd t465 x146_3)) = true := decide_eq_true c52
          clear c52
          exact absurd ((Option.some.inj H).trans HRT.out) (by decide)
         as_aux_lemma =>
          rw [if_neg c52] at H
          have c52b0 : decide (t488 < (rd t465 x146_3)) = false := decide_eq_false c52
          clear c52
          by_cases c53 : x146_3 < (t473.length : Int)
          rotate_left
          ·rw [if_neg c53] at H
           exact absurd H (by simp)
          rw [if_pos c53] at H
          have c53b0 : decide (x146_3 < (t473.length : Int)) = true := decide_eq_true c53
          clear c53
          by_cases c54 : (rd t473 x146_3) < t487
          ·rw [if_pos c54] at H
           have c54b0 : decide ((rd t473 x146_3) < t487) = true := decide_eq_true c54
           clear c54
           exact absurd ((Option.some.inj H).trans HRT.out) (by decide)
          rw [if_neg c54] at H
          have c54b0 : decide ((rd t473 x146_3) < t487) = false := decide_eq_false c54
          clear c54
          by_cases c55 : (rd t473 x146_3) > t488
          ·rw [if_pos c55] at H
           have c55b0 : decide (t488 < (rd t473 x146_3)) = true := decide_eq_true c55
           clear c55
           exact absurd ((Option.some.inj H).trans HRT.out) (by decide)
          rw [if_neg c55] at H
          have c55b0 : decide (t488 < (rd t473 x146_3)) = false := decide_eq_false c55
          clear c55
          have H' := Aside0.mk H
          clear H
          have p490 : 0 ≤ (x146_3 : Int) := of_decide_eq_true (by first | (with_reducible assumption) | assumption)
          have q490 : x146_3 < (t465.length : Int) := of_decide_eq_true (by first | (with_reducible assumption) | assumption)
          obtain ⟨ad490, e490, hx490_0⟩ := Kd.at_int (Kd.R_reads' HO_10.out).2.2 x146_3 p490 q490
          cases e490
          replace p490 := eq_true p490
          replace q490 := eq_true q490
          have p491 : 0 ≤ (x146_3 : Int) := of_decide_eq_true (by first | (with_reducible assumption) | assumption)
          have q491 : x146_3 < (t465.length : Int) := of_decide_eq_true (by first | (with_reducible assumption) | assumption)
          obtain ⟨ad491, e491, hx491_0⟩ := Kd.at_int (Kd.R_reads' HO_10.out).2.2 x146_3 p491 q491
          obtain rfl : ad490 = ad491 := (by injection e491)
          replace p491 := eq_true p491
          replace q491 := eq_true q491
          obtain ⟨Ao56, co56, eo56⟩ := Kd.R_slice HO_14.out
          subst eo56
          have p492 : 0 ≤ (x146_3 : Int) := of_decide_eq_true (by first | (with_reducible assumption) | assumption)
          have q492 : x146_3 < (t473.length : Int) := of_decide_eq_true (by first | (with_reducible assumption) | assumption)
          obtain ⟨ad492, e492, hx492_0⟩ := Kd.at_int (Kd.R_reads' HO_14.out).2.2 x146_3 p492 q492
          cases e492
          replace p492 := eq_true p492
          replace q492 := eq_true q492
          have p493 : 0 ≤ (x146_3 : Int) := of_decide_eq_true (by first | (with_reducible assumption) | assumption)
          have q493 : x146_3 < (t473.length : Int) := of_decide_eq_true (by first | (with_reducible assumption) | assumption)
          obtain ⟨ad493, e493, hx493_0⟩ := Kd.at_int (Kd.R_reads' HO_14.out).2.2 x146_3 p493 q493
          obtain rfl : ad492 = ad493 := (by injection e493)
          replace p493 := eq_true p493
          replace q493 := eq_true q493
          go_wp2
          go_roundg k3
          case measure => have := HJ9.out; have := HJ37.out; have := HK3.out; omega
          case rel => exact ⟨(wrap64 (x146_3 + 1)), (by first | rfl | (simp; done) | (simp [*]; done)), H', ⟨by have := HJ9.out; have := HJ37.out; have := HK3.out; omega⟩, ⟨xR HO_6.out⟩, ⟨xR HO_10.out⟩, ⟨xR HO_14.out⟩, ⟨xR HO_18.out⟩, ⟨by (with_reducible repeat (first | refine blk_drewN ?_ _ | refine blk_drew ?_ | refine blk_alloc ?_ _)); exact BK464.out⟩, ⟨by repeat (first | (with_reducible first | exact HB.out | apply below_alloc | apply pw_below_drewN | apply below_drew1 | refine below_set ?_ GE464.out) | exact HB.out)⟩⟩
        rw [if_neg c48] at H
        have c48b0 : decide (x146_3 < (t465.length : Int)) = false := decide_eq_false c48
        clear c48
        by_cases c57 : t484 = true
        rotate_left
        ·as_aux_lemma =>
          replace c57 := Bool.eq_false_iff.mpr c57
          subst c57
          rw [if_neg (show ¬ (false = true) by decide)] at H
          have H' := Aside0.mk H
          clear H
          go_wp2
          go_meet
          case rel => exact ⟨_, H', ⟨by have := HJ9.out; have := HJ37.out; have := HK3.out; first | omega | exact Nat.le_refl _⟩, ⟨by (with_reducible repeat (first | refine blk_drewN ?_ _ | refine blk_drew ?_ | refine blk_alloc ?_ _)); exact BK464.out⟩, ⟨by repeat (first | (with_reducible first | exact HB.out | apply below_alloc | apply pw_below_drewN | apply below_drew1 | refine below_set ?_ GE464.out) | exact HB.out)⟩⟩
        subst c57
        rw [if_pos rfl] at H
        have H' := Aside0.mk H
        clear H
        obtain ⟨Ao58, co58, eo58⟩ := Kd.R_slice HO_18.out
        subst eo58
        go_wp2
        go_loopg [183] k3 (fun kq v183 w' => ∃ (x183_4 : Int), v183 = .int .i64 x183_4 ∧ Aside0 (laws_FnFiltersInWords.l1 kq l1 t456 t462 t463 t465 t473 t483 t483 (t483.length : Int) x183_4 t454 t455 = some r) ∧ Aside0 (kq ≤ k3) ∧ Aside0 (Kd.R (Kd.int .i64) 3 w' w.heap.size (fun k_ => some k_ ≠ ((.slice Ao47 t465.length co47) : Value).ownBlock ∧ some k_ ≠ (v474 : Value).ownBlock ∧ some k_ ≠ ((.slice Ao58 t483.length co58) : Value).ownBlock ∧ some k_ ≠ ((.slice Ao58 t483.length co58) : Value).ownBlock) (.slice Ao14 t456.length co14) t456) ∧ Aside0 (Kd.R (Kd.int .i64) 3 w' w.heap.size (fun k_ => some k_ ≠ ((.slice Ao14 t456.length co14) : Value).ownBlock ∧ some k_ ≠ (v474 : Value).ownBlock ∧ some k_ ≠ ((.slice Ao58 t483.length co58) : Value).ownBlock ∧ some k_ ≠ ((.slice Ao58 t483.length co58) : Value).ownBlock) (.slice Ao47 t465.length co47) t465) ∧ Aside0 (Kd.R (Kd.int .i64) 3 w' w.heap.size (fun k_ => some k_ ≠ ((.slice Ao14 t456.length co14) : Value).ownBlock ∧ some k_ ≠ ((.slice Ao47 t465.length co47) : Value).ownBlock ∧ some k_ ≠ ((.slice Ao58 t483.length co58) : Value).ownBlock ∧ some k_ ≠ ((.slice Ao58 t483.length co58) : Value).ownBlock) v474 t473) ∧ Aside0 (Kd.R (Kd.int .i64) 3 w' w.heap.size (fun k_ => some k_ ≠ ((.slice Ao14 t456.length co14) : Value).ownBlock ∧ some k_ ≠ ((.slice Ao47 t465.length co47) : Value).ownBlock ∧ some k_ ≠ (v474 : Value).ownBlock) (.slice Ao58 t483.length co58) t483) ∧ Aside0 (Kd.R (Kd.int .i64) 3 w' w.heap.size (fun k_ => some k_ ≠ ((.slice Ao14 t456.length co14) : Value).ownBlock ∧ some k_ ≠ ((.slice Ao47 t465.length co47) : Value).ownBlock ∧ some k_ ≠ (v474 : Value).ownBlock) (.slice Ao58 t483.length co58) t483) ∧ Aside0 (w'.heap[gb464]? = some (.cells #[.int .i64 t454, .bool t455] 46 (0, 0))) ∧ Aside0 (Below w.heap.size w w'))
        case atStart => exact ⟨(0), (by first | rfl | (simp; done) | (simp [*]; done)), H', ⟨Nat.le_refl _⟩, ⟨by (with_reducible repeat (first | apply Kd.R_alloc | apply Kd.R_drewN | apply Kd.R_drew)); exact Kd.R_mono HO_6.out (fun _ hk => ⟨hk.1, ⟨hk.2.1, ⟨hk.2.2, hk.2.2⟩⟩⟩)⟩, ⟨by (with_reducible repeat (first | apply Kd.R_alloc | apply Kd.R_drewN | apply Kd.R_drew)); exact Kd.R_mono HO_10.out (fun _ hk => ⟨hk.1, ⟨hk.2.1, ⟨hk.2.2, hk.2.2⟩⟩⟩)⟩, ⟨by (with_reducible repeat (first | apply Kd.R_alloc | apply Kd.R_drewN | apply Kd.R_drew)); exact Kd.R_mono HO_14.out (fun _ hk => ⟨hk.1, ⟨hk.2.1, ⟨hk.2.2, hk.2.2⟩⟩⟩)⟩, ⟨xR HO_18.out⟩, ⟨xR HO_18.out⟩, ⟨by (with_reducible repeat (first | refine blk_drewN ?_ _ | refine blk_drew ?_ | refine blk_alloc ?_ _)); exact BK464.out⟩, ⟨by repeat (first | (with_reducible first | exact HB.out | apply below_alloc | apply pw_below_drewN | apply below_drew1 | refine below_set ?_ GE464.out) | exact HB.out)⟩⟩
        case round =>
         clear H'
         try clear c48b0
         try clear c57
         obtain ⟨x183_4, rfl, HA, HK4, HO_6, HO_10, HO_14, HO_18, HO_181, BK464, HB⟩ := hrel
         cases gk with
         | zero => exact absurd HA.out (by simp [laws_FnFiltersInWords.l1])
         | succ k4 =>
          have H := HA.out
          clear HA
          simp only [laws_FnFiltersInWords.l1] at H
          by_cases c59 : x183_4 < (t483.length : Int)
          rotate_left
          ·rw [if_neg c59] at H
           have c59b0 : decide (x183_4 < (t483.length : Int)) = false := decide_eq_false c59
           clear c59
           replace H := Option.bind_eq_some_iff.mp H
           obtain ⟨⟨t502, t503⟩, A850, H⟩ := H
           (try dsimp only at H)
           have A85 := Aside0.mk A850
           clear A850
           by_cases c86 : t503 = true
           rotate_left
           ·as_aux_lemma =>
             replace c86 := Bool.eq_false_iff.mpr c86
             subst c86
             rw [if_neg (show ¬ (false = true) by decide)] at H
             have H' := Aside0.mk H
             clear H
             have hcz103_0 : wr.cell? ⟨gb464, 0, none⟩ = some (.int .i64 t454) := (blk_cell BK464.out 0).trans rfl
             have hcz103_1 : wr.cell? ⟨gb464, 1, none⟩ = some (.bool t455) := (blk_cell BK464.out 1).trans rfl
             have hfz103_0 := blk_frozen BK464.out 0
             have hfz103_1 := blk_frozen BK464.out 1
             go_wp2_with (first | (refine xG (some 238) Try.func64 #[.slice Ao14 t456.length co14, .agg #[.int .i64 t454, .bool t455]] ?_; (with_reducible refine (impl_BitsNeeded.calls k4 _ _ t456 t454 t455 t502 false _ ?side1 ?side2 A85.out).mono ?_); (case side1 => exact xC ((Kd.R_reads' HO_6.out).2.2)); (case side2 => exact (Kd.R_reads' HO_6.out).2.1); rintro e w104 ⟨rfl, hb⟩; refine ⟨_, rfl, ?_⟩; replace HO_6 := Aside0.mk (Kd.R_below (xR HO_6.out) hb); replace HO_10 := Aside0.mk (Kd.R_below (xR HO_10.out) hb); replace HO_14 := Aside0.mk (Kd.R_below (xR HO_14.out) hb); replace HO_18 := Aside0.mk (Kd.R_below (xR HO_18.out) hb); replace HO_181 := Aside0.mk (Kd.R_below (xR HO_181.out) hb); replace BK464 := Aside0.mk (blk_below (g := gb464) (o := .cells #[.int .i64 t454, .bool t455] 46 (0, 0)) (by (with_reducible repeat (first | refine blk_drewN ?_ _ | refine blk_drew ?_ | refine blk_alloc ?_ _)); exact BK464.out) hb); replace HB := Aside0.mk (below_step (by repeat (first | (with_reducible first | exact HB.out | apply below_alloc | apply pw_below_drewN | apply below_drew1 | refine below_set ?_ GE464.out) | exact HB.out)) hb); (try clear hb); (try clear hb2); (try clear hk); (try clear hi)))
             go_meet
             case rel => exact ⟨_, H', ⟨by have := HJ9.out; have := HJ37.out; have := HK3.out; have := HK4.out; first | omega | exact Nat.le_refl _⟩, ⟨by (with_reducible repeat (first | refine blk_drewN ?_ _ | refine blk_drew ?_ | refine blk_alloc ?_ _)); exact BK464.out⟩, ⟨by repeat (first | (with_reducible first | exact HB.out | apply below_alloc | apply pw_below_drewN | apply below_drew1 | refine below_set ?_ GE464.out) | exact HB.out)⟩⟩
           subst c86
           rw [if_pos rfl] at H
           by_cases c87 : t502 ≤ t454
           rotate_left
           ·as_aux_lemma =>
             rw [if_neg c87] at H
             have c87b0 : decide (t502 ≤ t454) = false := decide_eq_false c87
             clear c87
             have H' := Aside0.mk H
             clear H
             have hcz100_0 : wr.cell? ⟨gb464, 0, none⟩ = some (.int .i64 t454) := (blk_cell BK464.out 0).trans rfl
             have hcz100_1 : wr.cell? ⟨gb464, 1, none⟩ = some (.bool t455) := (blk_cell BK464.out 1).trans rfl
             have hfz100_0 := blk_frozen BK464.out 0
             have hfz100_1 := blk_frozen BK464.out 1
             go_wp2_with (first | (refine xG (some 238) Try.func64 #[.slice Ao14 t456.length co14, .agg #[.int .i64 t454, .bool t455]] ?_; (with_reducible refine (impl_BitsNeeded.calls k4 _ _ t456 t454 t455 t502 true _ ?side1 ?side2 A85.out).mono ?_); (case side1 => exact xC ((Kd.R_reads' HO_6.out).2.2)); (case side2 => exact (Kd.R_reads' HO_6.out).2.1); rintro e w101 ⟨rfl, hb⟩; refine ⟨_, rfl, ?_⟩; replace HO_6 := Aside0.mk (Kd.R_below (xR HO_6.out) hb); replace HO_10 := Aside0.mk (Kd.R_below (xR HO_10.out) hb); replace HO_14 := Aside0.mk (Kd.R_below (xR HO_14.out) hb); replace HO_18 := Aside0.mk (Kd.R_below (xR HO_18.out) hb); replace HO_181 := Aside0.mk (Kd.R_below (xR HO_181.out) hb); replace BK464 := Aside0.mk (blk_below (g := gb464) (o := .cells #[.int .i64 t454, .bool t455] 46 (0, 0)) (by (with_reducible repeat (first | refine blk_drewN ?_ _ | refine blk_drew ?_ | refine blk_alloc ?_ _)); exact BK464.out) hb); replace HB := Aside0.mk (below_step (by repeat (first | (with_reducible first | exact HB.out | apply below_alloc | apply pw_below_drewN | apply below_drew1 | refine below_set ?_ GE464.out) | exact HB.out)) hb); (try clear hb); (try clear hb2); (try clear hk); (try clear hi); have hcz102_0 : w101.cell? ⟨gb464, 0, none⟩ = some (.int .i64 t454) := (blk_cell BK464.out 0).trans rfl; have hcz102_1 : w101.cell? ⟨gb464, 1, none⟩ = some (.bool t455) := (blk_cell BK464.out 1).trans rfl; have hfz102_0 := blk_frozen BK464.out 0; have hfz102_1 := blk_frozen BK464.out 1))
             go_meet
             case rel => exact ⟨_, H', ⟨by have := HJ9.out; have := HJ37.out; have := HK3.out; have := HK4.out; first | omega | exact Nat.le_refl _⟩, ⟨by (with_reducible repeat (first | refine blk_drewN ?_ _ | refine blk_drew ?_ | refine blk_alloc ?_ _)); exact BK464.out⟩, ⟨by repeat (first | (with_reducible first | exact HB.out | apply below_alloc | apply pw_below_drewN | apply below_drew1 | refine below_set ?_ GE464.out) | exact HB.out)⟩⟩
           rw [if_pos c87] at H
           have c87b0 : decide (t502 ≤ t454) = true := decide_eq_true c87
           clear c87
           by_cases c88 : t462 = 0
           rotate_left
           ·as_aux_lemma =>
             rw [if_neg c88] at H
             have c88b0 : (t462 == 0) = false := beq_eq_false_iff_ne.mpr c88
             have c88b1 : (t462 != 0) = true := bne_iff_ne.mpr c88
             have H' := Aside0.mk H
             clear H
             have hcz97_0 : wr.cell? ⟨gb464, 0, none⟩ = some (.int .i64 t454) := (blk_cell BK464.out 0).trans rfl
             have hcz97_1 : wr.cell? ⟨gb464, 1, none⟩ = some (.bool t455) := (blk_cell BK464.out 1).trans rfl
             have hfz97_0 := blk_frozen BK464.out 0
             have hfz97_1 := blk_frozen BK464.out 1
             go_wp2_with (first | (refine xG (some 238) Try.func64 #[.slice Ao14 t456.length co14, .agg #[.int .i64 t454, .bool t455]] ?_; (with_reducible refine (impl_BitsNeeded.calls k4 _ _ t456 t454 t455 t502 true _ ?side1 ?side2 A85.out).mono ?_); (case side1 => exact xC ((Kd.R_reads' HO_6.out).2.2)); (case side2 => exact (Kd.R_reads' HO_6.out).2.1); rintro e w98 ⟨rfl, hb⟩; refine ⟨_, rfl, ?_⟩; replace HO_6 := Aside0.mk (Kd.R_below (xR HO_6.out) hb); replace HO_10 := Aside0.mk (Kd.R_below (xR HO_10.out) hb); replace HO_14 := Aside0.mk (Kd.R_below (xR HO_14.out) hb); replace HO_18 := Aside0.mk (Kd.R_below (xR HO_18.out) hb); replace HO_181 := Aside0.mk (Kd.R_below (xR HO_181.out) hb); replace BK464 := Aside0.mk (blk_below (g := gb464) (o := .cells #[.int .i64 t454, .bool t455] 46 (0, 0)) (by (with_reducible repeat (first | refine blk_drewN ?_ _ | refine blk_drew ?_ | refine blk_alloc ?_ _)); exact BK464.out) hb); replace HB := Aside0.mk (below_step (by repeat (first | (with_reducible first | exact HB.out | apply below_alloc | apply pw_below_drewN | apply below_drew1 | refine below_set ?_ GE464.out) | exact HB.out)) hb); (try clear hb); (try clear hb2); (try clear hk); (try clear hi); have hcz99_0 : w98.cell? ⟨gb464, 0, none⟩ = some (.int .i64 t454) := (blk_cell BK464.out 0).trans rfl; have hcz99_1 : w98.cell? ⟨gb464, 1, none⟩ = some (.bool t455) := (blk_cell BK464.out 1).trans rfl; have hfz99_0 := blk_frozen BK464.out 0; have hfz99_1 := blk_frozen BK464.out 1))
             go_meet
             case rel => exact ⟨_, H', ⟨by have := HJ9.out; have := HJ37.out; have := HK3.out; have := HK4.out; first | omega | exact Nat.le_refl _⟩, ⟨by (with_reducible repeat (first | refine blk_drewN ?_ _ | refine blk_drew ?_ | refine blk_alloc ?_ _)); exact BK464.out⟩, ⟨by repeat (first | (with_reducible first | exact HB.out | apply below_alloc | apply pw_below_drewN | apply below_drew1 | refine below_set ?_ GE464.out) | exact HB.out)⟩⟩
           as_aux_lemma =>
            rw [if_pos c88] at H
            have c88b0 : (t462 == 0) = true := beq_iff_eq.mpr c88
            have c88b1 : (t462 != 0) = false := bne_eq_false_iff_eq.mpr c88
            clear c88
            obtain ⟨t504, A89, H⟩ := xO H
            (try dsimp only at H)
            by_cases c90 : t504 = true
            rotate_left
            ·replace c90 := Bool.eq_false_iff.mpr c90
             subst c90
             rw [if_neg (show ¬ (false = true) by decide)] at H
             exact absurd ((Option.some.inj H).trans HRT.out) (by decide)
            subst c90
            rw [if_pos rfl] at H
            obtain ⟨t505, A91, H⟩ := xO H
            (try dsimp only at H)
            by_cases c92 : t505 = true
            rotate_left
            ·replace c92 := Bool.eq_false_iff.mpr c92
             subst c92
             rw [if_neg (show ¬ (false = true) by decide)] at H
             exact absurd ((Option.some.inj H).trans HRT.out) (by decide)
            subst c92
            rw [if_pos rfl] at H
            have H' := Aside0.mk H
            clear H
            have hcz93_0 : wr.cell? ⟨gb464, 0, none⟩ = some (.int .i64 t454) := (blk_cell BK464.out 0).trans rfl
            have hcz93_1 : wr.cell? ⟨gb464, 1, none⟩ = some (.bool t455) := (blk_cell BK464.out 1).trans rfl
            have hfz93_0 := blk_frozen BK464.out 0
            have hfz93_1 := blk_frozen BK464.out 1
            go_wp2_with (first | (refine xG (some 238) Try.func64 #[.slice Ao14 t456.length co14, .agg #[.int .i64 t454, .bool t455]] ?_; (with_reducible refine (impl_BitsNeeded.calls k4 _ _ t456 t454 t455 t502 true _ ?side1 ?side2 A85.out).mono ?_); (case side1 => exact xC ((Kd.R_reads' HO_6.out).2.2)); (case side2 => exact (Kd.R_reads' HO_6.out).2.1); rintro e w94 ⟨rfl, hb⟩; refine ⟨_, rfl, ?_⟩; replace HO_6 := Aside0.mk (Kd.R_below (xR HO_6.out) hb); replace HO_10 := Aside0.mk (Kd.R_below (xR HO_10.out) hb); replace HO_14 := Aside0.mk (Kd.R_below (xR HO_14.out) hb); replace HO_18 := Aside0.mk (Kd.R_below (xR HO_18.out) hb); replace HO_181 := Aside0.mk (Kd.R_below (xR HO_181.out) hb); replace BK464 := Aside0.mk (blk_below (g := gb464) (o := .cells #[.int .i64 t454, .bool t455] 46 (0, 0)) (by (with_reducible repeat (first | refine blk_drewN ?_ _ | refine blk_drew ?_ | refine blk_alloc ?_ _)); exact BK464.out) hb); replace HB := Aside0.mk (below_step (by repeat (first | (with_reducible first | exact HB.out | apply below_alloc | apply pw_below_drewN | apply below_drew1 | refine below_set ?_ GE464.out) | exact HB.out)) hb); (try clear hb); (try clear hb2); (try clear hk); (try clear hi); have hcz95_0 : w94.cell? ⟨gb464, 0, none⟩ = some (.int .i64 t454) := (blk_cell BK464.out 0).trans rfl; have hcz95_1 : w94.cell? ⟨gb464, 1, none⟩ = some (.bool t455) := (blk_cell BK464.out 1).trans rfl; have hfz95_0 := blk_frozen BK464.out 0; have hfz95_1 := blk_frozen BK464.out 1) | (go_at_call 21; (with_reducible refine (laws_iSame.calls k4 _ _ t465 _ _ t483 true _ ?side1 ?side2 ?side3 ?side4 A89.out).mono ?_); (case side1 => exact xC ((Kd.R_reads' HO_10.out).2.2)); (case side2 => exact (Kd.R_reads' HO_10.out).2.1); (case side3 => exact xC ((Kd.R_reads' HO_18.out).2.2)); (case side4 => exact (Kd.R_reads' HO_18.out).2.1); rintro e w' ⟨rfl, ⟨nd, rfl⟩⟩; obtain ⟨Ao96, co96, eo96⟩ := Kd.R_slice HO_14.out; subst eo96) | (go_at_call 21; (with_reducible refine (laws_iSame.calls k4 _ _ t473 _ _ t483 true _ ?side1 ?side2 ?side3 ?side4 A91.out).mono ?_); (case side1 => exact xC ((Kd.R_reads' HO_14.out).2.2)); (case side2 => exact (Kd.R_reads' HO_14.out).2.1); (case side3 => exact xC ((Kd.R_reads' HO_18.out).2.2)); (case side4 => exact (Kd.R_reads' HO_18.out).2.1); rintro e w' ⟨rfl, ⟨nd, rfl⟩⟩))
            go_meet
            case rel => exact ⟨_, H', ⟨by have := HJ9.out; have := HJ37.out; have := HK3.out; have := HK4.out; first | omega | exact Nat.le_refl _⟩, ⟨by (with_reducible repeat (first | refine blk_drewN ?_ _ | refine blk_drew ?_ | refine blk_alloc ?_ _)); exact BK464.out⟩, ⟨by repeat (first | (with_reducible first | exact HB.out | apply below_alloc | apply pw_below_drewN | apply below_drew1 | refine below_set ?_ GE464.out) | exact HB.out)⟩⟩
          rw [if_pos c59] at H
          have c59b0 : decide (x183_4 < (t483.length : Int)) = true := decide_eq_true c59
          clear c59
          by_cases c60 : 0 ≤ x183_4
          rotate_left
          ·rw [if_neg c60] at H
           exact absurd H (by simp)
          rw [if_pos c60] at H
          have c60b0 : decide (0 ≤ x183_4) = true := decide_eq_true c60
          clear c60
          by_cases c61 : x183_4 < (t483.length : Int)
          rotate_left
          ·rw [if_neg c61] at H
           exact absurd H (by simp)
          rw [if_pos c61] at H
          have c61b0 : decide (x183_4 < (t483.length : Int)) = true := decide_eq_true c61
          clear c61
          replace H := Option.bind_eq_some_iff.mp H
          obtain ⟨⟨t495, t496⟩, A620, H⟩ := H
          (try dsimp only at H)
          have A62 := Aside0.mk A620
          clear A620
          replace H := Option.bind_eq_some_iff.mp H
          obtain ⟨⟨t497, t498⟩, A630, H⟩ := H
          (try dsimp only at H)
          have A63 := Aside0.mk A630
          clear A630
          by_cases c64 : t496 = true
          rotate_left
          ·as_aux_lemma =>
            replace c64 := Bool.eq_false_iff.mpr c64
            subst c64
            rw [if_neg (show ¬ (false = true) by decide)] at H
            exact absurd ((Option.some.inj H).trans HRT.out) (by decide)
          subst c64
          rw [if_pos rfl] at H
          by_cases c65 : t498 = true
          rotate_left
          ·as_aux_lemma =>
            replace c65 := Bool.eq_false_iff.mpr c65
            subst c65
            rw [if_neg (show ¬ (false = true) by decide)] at H
            exact absurd ((Option.some.inj H).trans HRT.out) (by decide)
          subst c65
          rw [if_pos rfl] at H
          by_cases c66 : x183_4 < (t473.length : Int)
          rotate_left
          ·rw [if_neg c66] at H
           exact absurd H (by simp)
          rw [if_pos c66] at H
          have c66b0 : decide (x183_4 < (t473.length : Int)) = true := decide_eq_true c66
          clear c66
          by_cases c67 : (rd t473 x183_4) = t497
          rotate_left
          ·rw [if_neg c67] at H
           have c67b0 : ((rd t473 x183_4) == t497) = false := beq_eq_false_iff_ne.mpr c67
           have c67b1 : ((rd t473 x183_4) != t497) = true := bne_iff_ne.mpr c67
           exact absurd ((Option.some.inj H).trans HRT.out) (by decide)
          rw [if_pos c67] at H
          have c67b0 : ((rd t473 x183_4) == t497) = true := beq_iff_eq.mpr c67
          have c67b1 : ((rd t473 x183_4) != t497) = false := bne_eq_false_iff_eq.mpr c67
          clear c67
          by_cases c68 : t462 = 0
          rotate_left
          ·rw [if_neg c68] at H
           have c68b0 : (t462 == 0) = false := beq_eq_false_iff_ne.mpr c68
           have c68b1 : (t462 != 0) = true := bne_iff_ne.mpr c68
           have H' := Aside0.mk H
           clear H
           have p494 : 0 ≤ (x183_4 : Int) := of_decide_eq_true (by first | (with_reducible assumption) | assumption)
           have q494 : x183_4 < (t483.length : Int) := of_decide_eq_true (by first | (with_reducible assumption) | assumption)
           obtain ⟨ad494, e494, hx494_0⟩ := Kd.at_int (Kd.R_reads' HO_181.out).2.2 x183_4 p494 q494
           cases e494
           replace p494 := eq_true p494
           replace q494 := eq_true q494
           try go_wp2_with (first | (refine xG (some 192) Try.func61 #[.int .i64 (rd t483 x183_4), .int .i64 t462, .int .i64 t463] ?_; (with_reducible refine (impl_RoundShift.calls k4 (rd t483 x183_4) t462 t463 t495 true _ A62.out).mono ?_); rintro e w' ⟨rfl, ⟨nd, rfl⟩⟩; refine ⟨_, rfl, ?_⟩; have hcz81_0 : wr.cell? ⟨gb464, 0, none⟩ = some (.int .i64 t454) := (blk_cell BK464.out 0).trans rfl; have hcz81_1 : wr.cell? ⟨gb464, 1, none⟩ = some (.bool t455) := (blk_cell BK464.out 1).trans rfl; have hfz81_0 := blk_frozen BK464.out 0; have hfz81_1 := blk_frozen BK464.out 1) | (refine xG (some 198) Try.func62 #[.agg #[.int .i64 t454, .bool t455], .int .i64 t495] ?_; (with_reducible refine (impl_FitNumber.calls t454 t455 t495 t497 true _ A63.out).mono ?_); rintro e w82 ⟨rfl, hb⟩; refine ⟨_, rfl, ?_⟩; replace HO_6 := Aside0.mk (Kd.R_below (xR HO_6.out) hb); replace HO_10 := Aside0.mk (Kd.R_below (xR HO_10.out) hb); replace HO_14 := Aside0.mk (Kd.R_below (xR HO_14.out) hb); replace HO_18 := Aside0.mk (Kd.R_below (xR HO_18.out) hb); replace HO_181 := Aside0.mk (Kd.R_below (xR HO_181.out) hb); replace BK464 := Aside0.mk (blk_below (g := gb464) (o := .cells #[.int .i64 t454, .bool t455] 46 (0, 0)) (by (with_reducible repeat (first | refine blk_drewN ?_ _ | refine blk_drew ?_ | refine blk_alloc ?_ _)); exact BK464.out) hb); replace HB := Aside0.mk (below_step (by repeat (first | (with_reducible first | exact HB.out | apply below_alloc | apply pw_below_drewN | apply below_drew1 | refine below_set ?_ GE464.out) | exact HB.out)) hb); (try clear hb); (try clear hb2); (try clear hk); (try clear hi)))
           have n0_ := Aside0.mk (Kd.R_drew HO_6.out)
           have n1_ := Aside0.mk (Kd.R_drew HO_10.out)
           have n2_ := Aside0.mk (Kd.R_drew HO_14.out)
           have n3_ := Aside0.mk (Kd.R_drew HO_18.out)
           have n4_ := Aside0.mk (Kd.R_drew HO_181.out)
           have n5_ := Aside0.mk (blk_drew BK464.out)
           have n6_ := Aside0.mk (below_drew1 HB.out)
           clear HO_6
           clear HO_10
           clear HO_14
           clear HO_18
           clear HO_181
           clear BK464
           clear HB
           have HO_6 := n0_
           have HO_10 := n1_
           have HO_14 := n2_
           have HO_18 := n3_
           have HO_181 := n4_
           have BK464 := n5_
           have HB := n6_
           clear n0_ n1_ n2_ n3_ n4_ n5_ n6_
           obtain ⟨Ao84, co84, eo84⟩ := Kd.R_slice HO_14.out
           (first | subst eo84 | (injection eo84 with f1_ f2_ f3_; have f4_ := f1_.symm; have f5_ := f3_.symm; clear f1_ f2_ f3_; subst f4_; subst f5_))
           have p499 : 0 ≤ (x183_4 : Int) := of_decide_eq_true (by first | (with_reducible assumption) | assumption)
           have q499 : x183_4 < (t473.length : Int) := of_decide_eq_true (by first | (with_reducible assumption) | assumption)
           obtain ⟨ad499, e499, hx499_0⟩ := Kd.at_int (Kd.R_reads' HO_14.out).2.2 x183_4 p499 q499
           cases e499
           replace p499 := eq_true p499
           replace q499 := eq_true q499
           refine start_ (n := 33) (S := fun w' => w'.cell? (ad499.add (x183_4).toNat) = some (.int .i64 (rd t473 x183_4))) (ds := []) x14a0 (by kernel_rfl) rfl rfl (hx499_0) (fun hHeld => ?_); refine with_tabW laws_FnFiltersInWords.tab27 laws_FnFiltersInWords.bits27 (fun HT_ HW_ => ?_)
           generalize w82.drew = w83 at HO_6 HO_10 HO_14 HO_18 HO_181 BK464 HB hx499_0 hHeld ⊢
           refine pure_ (i := 0) (N := some 201) (v := ?_) (a' := ?_) x14a1 rfl rfl (any_of HT_.out (by kernel_rfl)) (fun _ _ _ h => h) (Or.inl ⟨by rfl, ?_⟩) ?_ ?_; rotate_left; (intro w'; go_simp; with_reducible rfl); rotate_left; exact xE
           refine pure_ (i := 1) (N := some 202) (v := ?_) (a' := ?_) x14a2 rfl rfl (any_of HT_.out (by kernel_rfl)) (fun _ _ _ h => h) (Or.inl ⟨by rfl, ?_⟩) ?_ ?_; rotate_left; (intro w'; go_simp; with_reducible rfl); rotate_left; exact xE
           refine pure_ (i := 2) (N := some 203) (v := ?_) (a' := ?_) x14a3 rfl rfl (any_of HT_.out (by kernel_rfl)) (fun _ _ _ h => h) (Or.inl ⟨by rfl, ?_⟩) ?_ ?_; rotate_left; (intro w'; go_simp; with_reducible rfl); rotate_left; exact xE
           refine pure_ (i := 3) (N := some 204) (v := ?_) (a' := ?_) x14a4 rfl rfl (any_of HT_.out (by kernel_rfl)) (fun _ _ _ h => h) (Or.inl ⟨by rfl, ?_⟩) ?_ ?_; rotate_left; (intro w'; go_simp; with_reducible rfl); rotate_left; exact xE
           refine pure_ (i := 4) (N := some 205) (v := ?_) (a' := ?_) x14a5 rfl rfl (any_of HT_.out (by kernel_rfl)) (fun _ _ _ h => h) (Or.inl ⟨by rfl, ?_⟩) ?_ ?_; rotate_left; (intro w'; go_simp; with_reducible rfl); rotate_left; exact xE
           refine pure_ (i := 5) (N := some 206) (v := ?_) (a' := ?_) x14a6 rfl rfl (any_of HT_.out (by kernel_rfl)) (fun _ _ _ h => h) (Or.inl ⟨by rfl, ?_⟩) ?_ ?_; rotate_left; (intro w'; go_simp; with_reducible rfl); rotate_left; exact xE
           refine pure_ (i := 6) (N := some 207) (v := ?_) (a' := ?_) x14a7 rfl rfl (any_of HT_.out (by kernel_rfl)) (fun _ _ _ h => h) (Or.inl ⟨by rfl, ?_⟩) ?_ ?_; rotate_left; (intro w'; go_simp; with_reducible rfl); rotate_left; exact xE
           refine pure_ (i := 7) (N := some 208) (v := ?_) (a' := ?_) x14a8 rfl rfl (any_of HT_.out (by kernel_rfl)) (fun _ _ _ h => h) (Or.inl ⟨by rfl, ?_⟩) ?_ ?_; rotate_left; (intro w'; go_simp; with_reducible rfl); rotate_left; exact xE
           refine pure_ (i := 8) (N := some 209) (v := ?_) (a' := ?_) x14a9 rfl rfl (any_of HT_.out (by kernel_rfl)) (fun _ _ _ h => h) (Or.inl ⟨by rfl, ?_⟩) ?_ ?_; rotate_left; (intro w'; go_simp; with_reducible rfl); rotate_left; exact xE
           refine pure_ (i := 9) (N := some 210) (v := ?_) (a' := ?_) x14a10 rfl rfl (any_of HT_.out (by kernel_rfl)) (fun _ _ _ h => h) (Or.inl ⟨by rfl, ?_⟩) ?_ ?_; rotate_left; (intro w'; go_simp; with_reducible rfl); rotate_left; exact xE
           refine pure_ (i := 11) (N := some 212) (v := ?_) (a' := ?_) x14a11 rfl rfl (any_of HT_.out (by kernel_rfl)) (fun _ _ _ h => h) (Or.inl ⟨by rfl, ?_⟩) ?_ ?_; rotate_left; (intro w'; go_simp; with_reducible rfl); rotate_left; exact xE
           refine take_ (i := 10) (N := some 211) (v := ?_) (a' := ?_) x14a12 rfl rfl (take_ofW HT_.out HW_.out (by kernel_rfl)) (fun _ _ _ h => h) (Or.inl ⟨by rfl, ?_⟩) hHeld ?_ ?_
           rotate_left
           ·intro w' s0
            go_simp
            with_reducible rfl
           rotate_left
           ·exact xE
           refine pure_ (i := 12) (N := some 213) (v := ?_) (a' := ?_) x14a13 rfl rfl (any_of HT_.out (by kernel_rfl)) (fun _ _ _ h => h) (Or.inl ⟨by rfl, ?_⟩) ?_ ?_; rotate_left; (intro w'; go_simp; with_reducible rfl); rotate_left; exact xE
           refine pure_ (i := 13) (N := some 214) (v := ?_) (a' := ?_) x14a14 rfl rfl (any_of HT_.out (by kernel_rfl)) (fun _ _ _ h => h) (Or.inl ⟨by rfl, ?_⟩) ?_ ?_; rotate_left; (intro w'; go_simp; with_reducible rfl); rotate_left; exact xE
           refine pure_ (i := 14) (N := some 215) (v := ?_) (a' := ?_) x14a15 rfl rfl (any_of HT_.out (by kernel_rfl)) (fun _ _ _ h => h) (Or.inl ⟨by rfl, ?_⟩) ?_ ?_; rotate_left; (intro w'; go_simp; with_reducible rfl); rotate_left; exact xE
           refine pure_ (i := 15) (N := some 216) (v := ?_) (a' := ?_) x14a16 rfl rfl (any_of HT_.out (by kernel_rfl)) (fun _ _ _ h => h) (Or.inl ⟨by rfl, ?_⟩) ?_ ?_; rotate_left; (intro w'; go_simp; with_reducible rfl); rotate_left; exact xE
           refine pure_ (i := 16) (N := some 217) (v := ?_) (a' := ?_) x14a17 rfl rfl (any_of HT_.out (by kernel_rfl)) (fun _ _ _ h => h) (Or.inl ⟨by rfl, ?_⟩) ?_ ?_; rotate_left; (intro w'; go_simp; with_reducible rfl); rotate_left; exact xE
           refine pure_ (i := 17) (N := some 218) (v := ?_) (a' := ?_) x14a18 rfl rfl (any_of HT_.out (by kernel_rfl)) (fun _ _ _ h => h) (Or.inl ⟨by rfl, ?_⟩) ?_ ?_; rotate_left; (intro w'; go_simp; with_reducible rfl); rotate_left; exact xE
           refine pure_ (i := 18) (N := some 219) (v := undef) (a' := ?_) x14a19 rfl rfl (any_of HT_.out (by kernel_rfl)) (fun _ _ _ h => h) (Or.inr ⟨by rfl, rfl⟩) ?_ ?_
           rotate_left
           ·exact xE
           refine pure_ (i := 19) (N := some 220) (v := undef) (a' := ?_) x14a20 rfl rfl (any_of HT_.out (by kernel_rfl)) (fun _ _ _ h => h) (Or.inr ⟨by rfl, rfl⟩) ?_ ?_
           rotate_left
           ·exact xE
           refine pure_ (i := 20) (N := some 221) (v := ?_) (a' := ?_) x14a21 rfl rfl (any_of HT_.out (by kernel_rfl)) (fun _ _ _ h => h) (Or.inl ⟨by rfl, ?_⟩) ?_ ?_; rotate_left; (intro w'; go_simp; with_reducible rfl); rotate_left; exact xE
           refine pure_ (i := 21) (N := some 222) (v := ?_) (a' := ?_) x14a22 rfl rfl (any_of HT_.out (by kernel_rfl)) (fun _ _ _ h => h) (Or.inl ⟨by rfl, ?_⟩) ?_ ?_; rotate_left; (intro w'; go_simp; with_reducible rfl); rotate_left; exact xE
           refine pure_ (i := 22) (N := some 223) (v := undef) (a' := ?_) x14a23 rfl rfl (any_of HT_.out (by kernel_rfl)) (fun _ _ _ h => h) (Or.inr ⟨by rfl, rfl⟩) ?_ ?_
           rotate_left
           ·exact xE
           refine pure_ (i := 23) (N := some 224) (v := undef) (a' := ?_) x14a24 rfl rfl (any_of HT_.out (by kernel_rfl)) (fun _ _ _ h => h) (Or.inr ⟨by rfl, rfl⟩) ?_ ?_
           rotate_left
           ·exact xE
           refine pure_ (i := 24) (N := some 225) (v := undef) (a' := ?_) x14a25 rfl rfl (any_of HT_.out (by kernel_rfl)) (fun _ _ _ h => h) (Or.inr ⟨by rfl, rfl⟩) ?_ ?_
           rotate_left
           ·exact xE
           refine pure_ (i := 25) (N := some 226) (v := undef) (a' := ?_) x14a26 rfl rfl (any_of HT_.out (by kernel_rfl)) (fun _ _ _ h => h) (Or.inr ⟨by rfl, rfl⟩) ?_ ?_
           rotate_left
           ·exact xE
           refine pure_ (i := 26) (N := some 227) (v := undef) (a' := ?_) x14a27 rfl rfl (any_of HT_.out (by kernel_rfl)) (fun _ _ _ h => h) (Or.inr ⟨by rfl, rfl⟩) ?_ ?_
           rotate_left
           ·exact xE
           refine pure_ (i := 27) (N := some 228) (v := undef) (a' := ?_) x14a28 rfl rfl (any_of HT_.out (by kernel_rfl)) (fun _ _ _ h => h) (Or.inr ⟨by rfl, rfl⟩) ?_ ?_
           rotate_left
           ·exact xE
           refine pure_ (i := 28) (N := some 229) (v := undef) (a' := ?_) x14a29 rfl rfl (any_of HT_.out (by kernel_rfl)) (fun _ _ _ h => h) (Or.inr ⟨by rfl, rfl⟩) ?_ ?_
           rotate_left
           ·exact xE
           refine pure_ (i := 29) (N := some 230) (v := undef) (a' := ?_) x14a30 rfl rfl (any_of HT_.out (by kernel_rfl)) (fun _ _ _ h => h) (Or.inr ⟨by rfl, rfl⟩) ?_ ?_
           rotate_left
           ·exact xE
           refine pure_ (i := 30) (N := some 231) (v := undef) (a' := ?_) x14a31 rfl rfl (any_of HT_.out (by kernel_rfl)) (fun _ _ _ h => h) (Or.inr ⟨by rfl, rfl⟩) ?_ ?_
           rotate_left
           ·exact xE
           refine pure_ (i := 31) (N := some 232) (v := ?_) (a' := ?_) x14a32 rfl rfl (any_of HT_.out (by kernel_rfl)) (fun _ _ _ h => h) (Or.inl ⟨by rfl, ?_⟩) ?_ ?_; rotate_left; (intro w'; go_simp; with_reducible rfl); rotate_left; exact xE
           refine pure_ (i := 32) (N := some 233) (v := ?_) (a' := ?_) x14a33 rfl rfl (any_of HT_.out (by kernel_rfl)) (fun _ _ _ h => h) (Or.inl ⟨by rfl, ?_⟩) ?_ ?_; rotate_left; (intro w'; go_simp; with_reducible rfl); rotate_left; exact xE
           refine done_ (done_of HT_.out (by kernel_rfl)) ?_
           try go_wp2
           go_roundg k4
           case measure => have := HJ9.out; have := HJ37.out; have := HK3.out; have := HK4.out; omega
           case rel => exact ⟨(wrap64 (x183_4 + 1)), (by first | rfl | (simp; done) | (simp [*]; done)), H', ⟨by have := HJ9.out; have := HJ37.out; have := HK3.out; have := HK4.out; omega⟩, ⟨xR HO_6.out⟩, ⟨xR HO_10.out⟩, ⟨xR HO_14.out⟩, ⟨xR HO_18.out⟩, ⟨xR HO_181.out⟩, ⟨by (with_reducible repeat (first | refine blk_drewN ?_ _ | refine blk_drew ?_ | refine blk_alloc ?_ _)); exact BK464.out⟩, ⟨by repeat (first | (with_reducible first | exact HB.out | apply below_alloc | apply pw_below_drewN | apply below_drew1 | refine below_set ?_ GE464.out) | exact HB.out)⟩⟩
          rw [if_pos c68] at H
          have c68b0 : (t462 == 0) = true := beq_iff_eq.mpr c68
          have c68b1 : (t462 != 0) = false := bne_eq_false_iff_eq.mpr c68
          clear c68
          by_cases c69 : t455 = true
          rotate_left
          ·replace c69 := Bool.eq_false_iff.mpr c69
           subst c69
           rw [if_neg (show ¬ (false = true) by decide)] at H
           have H' := Aside0.mk H
           clear H
           have p494 : 0 ≤ (x183_4 : Int) := of_decide_eq_true (by first | (with_reducible assumption) | assumption)
           have q494 : x183_4 < (t483.length : Int) := of_decide_eq_true (by first | (with_reducible assumption) | assumption)
           obtain ⟨ad494, e494, hx494_0⟩ := Kd.at_int (Kd.R_reads' HO_181.out).2.2 x183_4 p494 q494
           cases e494
           replace p494 := eq_true p494
           replace q494 := eq_true q494
           try go_wp2_with (first | (refine xG (some 192) Try.func61 #[.int .i64 (rd t483 x183_4), .int .i64 t462, .int .i64 t463] ?_; (with_reducible refine (impl_RoundShift.calls k4 (rd t483 x183_4) t462 t463 t495 true _ A62.out).mono ?_); rintro e w' ⟨rfl, ⟨nd, rfl⟩⟩; refine ⟨_, rfl, ?_⟩; have hcz77_0 : wr.cell? ⟨gb464, 0, none⟩ = some (.int .i64 t454) := (blk_cell BK464.out 0).trans rfl; have hcz77_1 : wr.cell? ⟨gb464, 1, none⟩ = some (.bool false) := (blk_cell BK464.out 1).trans rfl; have hfz77_0 := blk_frozen BK464.out 0; have hfz77_1 := blk_frozen BK464.out 1) | (refine xG (some 198) Try.func62 #[.agg #[.int .i64 t454, .bool false], .int .i64 t495] ?_; (with_reducible refine (impl_FitNumber.calls t454 false t495 t497 true _ A63.out).mono ?_); rintro e w78 ⟨rfl, hb⟩; refine ⟨_, rfl, ?_⟩; replace HO_6 := Aside0.mk (Kd.R_below (xR HO_6.out) hb); replace HO_10 := Aside0.mk (Kd.R_below (xR HO_10.out) hb); replace HO_14 := Aside0.mk (Kd.R_below (xR HO_14.out) hb); replace HO_18 := Aside0.mk (Kd.R_below (xR HO_18.out) hb); replace HO_181 := Aside0.mk (Kd.R_below (xR HO_181.out) hb); replace BK464 := Aside0.mk (blk_below (g := gb464) (o := .cells #[.int .i64 t454, .bool false] 46 (0, 0)) (by (with_reducible repeat (first | refine blk_drewN ?_ _ | refine blk_drew ?_ | refine blk_alloc ?_ _)); exact BK464.out) hb); replace HB := Aside0.mk (below_step (by repeat (first | (with_reducible first | exact HB.out | apply below_alloc | apply pw_below_drewN | apply below_drew1 | refine below_set ?_ GE464.out) | exact HB.out)) hb); (try clear hb); (try clear hb2); (try clear hk); (try clear hi)))
           have n0_ := Aside0.mk (Kd.R_drew HO_6.out)
           have n1_ := Aside0.mk (Kd.R_drew HO_10.out)
           have n2_ := Aside0.mk (Kd.R_drew HO_14.out)
           have n3_ := Aside0.mk (Kd.R_drew HO_18.out)
           have n4_ := Aside0.mk (Kd.R_drew HO_181.out)
           have n5_ := Aside0.mk (blk_drew BK464.out)
           have n6_ := Aside0.mk (below_drew1 HB.out)
           clear HO_6
           clear HO_10
           clear HO_14
           clear HO_18
           clear HO_181
           clear BK464
           clear HB
           have HO_6 := n0_
           have HO_10 := n1_
           have HO_14 := n2_
           have HO_18 := n3_
           have HO_181 := n4_
           have BK464 := n5_
           have HB := n6_
           clear n0_ n1_ n2_ n3_ n4_ n5_ n6_
           obtain ⟨Ao80, co80, eo80⟩ := Kd.R_slice HO_14.out
           (first | subst eo80 | (injection eo80 with f1_ f2_ f3_; have f4_ := f1_.symm; have f5_ := f3_.symm; clear f1_ f2_ f3_; subst f4_; subst f5_))
           have p499 : 0 ≤ (x183_4 : Int) := of_decide_eq_true (by first | (with_reducible assumption) | assumption)
           have q499 : x183_4 < (t473.length : Int) := of_decide_eq_true (by first | (with_reducible assumption) | assumption)
           obtain ⟨ad499, e499, hx499_0⟩ := Kd.at_int (Kd.R_reads' HO_14.out).2.2 x183_4 p499 q499
           cases e499
           replace p499 := eq_true p499
           replace q499 := eq_true q499
           refine start_ (n := 33) (S := fun w' => w'.cell? ⟨gb464, 0, none⟩ = some (.int .i64 t454) ∧ w'.cell? ⟨gb464, 1, none⟩ = some (.bool false) ∧ w'.cell? (ad499.add (x183_4).toNat) = some (.int .i64 (rd t473 x183_4))) (ds := []) x14a0 (by kernel_rfl) rfl rfl ⟨(blk_cell BK464.out 0).trans rfl, (blk_cell BK464.out 1).trans rfl, hx499_0⟩ (fun hHeld => ?_); refine with_tabW laws_FnFiltersInWords.tab27 laws_FnFiltersInWords.bits27 (fun HT_ HW_ => ?_)
           generalize w78.drew = w79 at HO_6 HO_10 HO_14 HO_18 HO_181 BK464 HB hx499_0 hHeld ⊢
           refine pure_ (i := 0) (N := some 201) (v := ?_) (a' := ?_) x14a1 rfl rfl (any_of HT_.out (by kernel_rfl)) (fun _ _ _ h => h) (Or.inl ⟨by rfl, ?_⟩) ?_ ?_; rotate_left; (intro w'; go_simp; with_reducible rfl); rotate_left; exact xE
           refine pure_ (i := 1) (N := some 202) (v := ?_) (a' := ?_) x14a2 rfl rfl (any_of HT_.out (by kernel_rfl)) (fun _ _ _ h => h) (Or.inl ⟨by rfl, ?_⟩) ?_ ?_; rotate_left; (intro w'; go_simp; with_reducible rfl); rotate_left; exact xE
           refine pure_ (i := 2) (N := some 203) (v := ?_) (a' := ?_) x14a3 rfl rfl (any_of HT_.out (by kernel_rfl)) (fun _ _ _ h => h) (Or.inl ⟨by rfl, ?_⟩) ?_ ?_; rotate_left; (intro w'; go_simp; with_reducible rfl); rotate_left; exact xE
           refine pure_ (i := 3) (N := some 204) (v := ?_) (a' := ?_) x14a4 rfl rfl (any_of HT_.out (by kernel_rfl)) (fun _ _ _ h => h) (Or.inl ⟨by rfl, ?_⟩) ?_ ?_; rotate_left; (intro w'; go_simp; with_reducible rfl); rotate_left; exact xE
           refine pure_ (i := 4) (N := some 205) (v := ?_) (a' := ?_) x14a5 rfl rfl (any_of HT_.out (by kernel_rfl)) (fun _ _ _ h => h) (Or.inl ⟨by rfl, ?_⟩) ?_ ?_; rotate_left; (intro w'; go_simp; with_reducible rfl); rotate_left; exact xE
           refine pure_ (i := 5) (N := some 206) (v := ?_) (a' := ?_) x14a6 rfl rfl (any_of HT_.out (by kernel_rfl)) (fun _ _ _ h => h) (Or.inl ⟨by rfl, ?_⟩) ?_ ?_; rotate_left; (intro w'; go_simp; with_reducible rfl); rotate_left; exact xE
           refine pure_ (i := 6) (N := some 207) (v := ?_) (a' := ?_) x14a7 rfl rfl (any_of HT_.out (by kernel_rfl)) (fun _ _ _ h => h) (Or.inl ⟨by rfl, ?_⟩) ?_ ?_; rotate_left; (intro w'; go_simp; with_reducible rfl); rotate_left; exact xE
           refine pure_ (i := 7) (N := some 208) (v := ?_) (a' := ?_) x14a8 rfl rfl (any_of HT_.out (by kernel_rfl)) (fun _ _ _ h => h) (Or.inl ⟨by rfl, ?_⟩) ?_ ?_; rotate_left; (intro w'; go_simp; with_reducible rfl); rotate_left; exact xE
           refine pure_ (i := 8) (N := some 209) (v := ?_) (a' := ?_) x14a9 rfl rfl (any_of HT_.out (by kernel_rfl)) (fun _ _ _ h => h) (Or.inl ⟨by rfl, ?_⟩) ?_ ?_; rotate_left; (intro w'; go_simp; with_reducible rfl); rotate_left; exact xE
           refine pure_ (i := 9) (N := some 210) (v := ?_) (a' := ?_) x14a10 rfl rfl (any_of HT_.out (by kernel_rfl)) (fun _ _ _ h => h) (Or.inl ⟨by rfl, ?_⟩) ?_ ?_; rotate_left; (intro w'; go_simp; with_reducible rfl); rotate_left; exact xE
           refine pure_ (i := 11) (N := some 212) (v := ?_) (a' := ?_) x14a11 rfl rfl (any_of HT_.out (by kernel_rfl)) (fun _ _ _ h => h) (Or.inl ⟨by rfl, ?_⟩) ?_ ?_; rotate_left; (intro w'; go_simp; with_reducible rfl); rotate_left; exact xE
           refine take_ (i := 10) (N := some 211) (v := ?_) (a' := ?_) x14a12 rfl rfl (take_ofW HT_.out HW_.out (by kernel_rfl)) (fun _ _ _ h => h) (Or.inl ⟨by rfl, ?_⟩) hHeld ?_ ?_
           rotate_left
           ·rintro w' ⟨s0, s1, s2⟩
            go_simp
            with_reducible rfl
           rotate_left
           ·exact xE
           refine pure_ (i := 12) (N := some 213) (v := ?_) (a' := ?_) x14a13 rfl rfl (any_of HT_.out (by kernel_rfl)) (fun _ _ _ h => h) (Or.inl ⟨by rfl, ?_⟩) ?_ ?_; rotate_left; (intro w'; go_simp; with_reducible rfl); rotate_left; exact xE
           refine pure_ (i := 13) (N := some 214) (v := ?_) (a' := ?_) x14a14 rfl rfl (any_of HT_.out (by kernel_rfl)) (fun _ _ _ h => h) (Or.inl ⟨by rfl, ?_⟩) ?_ ?_; rotate_left; (intro w'; go_simp; with_reducible rfl); rotate_left; exact xE
           refine pure_ (i := 14) (N := some 215) (v := ?_) (a' := ?_) x14a15 rfl rfl (any_of HT_.out (by kernel_rfl)) (fun _ _ _ h => h) (Or.inl ⟨by rfl, ?_⟩) ?_ ?_; rotate_left; (intro w'; go_simp; with_reducible rfl); rotate_left; exact xE
           refine pure_ (i := 15) (N := some 216) (v := ?_) (a' := ?_) x14a16 rfl rfl (any_of HT_.out (by kernel_rfl)) (fun _ _ _ h => h) (Or.inl ⟨by rfl, ?_⟩) ?_ ?_; rotate_left; (intro w'; go_simp; with_reducible rfl); rotate_left; exact xE
           refine pure_ (i := 16) (N := some 217) (v := ?_) (a' := ?_) x14a17 rfl rfl (any_of HT_.out (by kernel_rfl)) (fun _ _ _ h => h) (Or.inl ⟨by rfl, ?_⟩) ?_ ?_; rotate_left; (intro w'; go_simp; with_reducible rfl); rotate_left; exact xE
           refine pure_ (i := 17) (N := some 218) (v := ?_) (a' := ?_) x14a18 rfl rfl (any_of HT_.out (by kernel_rfl)) (fun _ _ _ h => h) (Or.inl ⟨by rfl, ?_⟩) ?_ ?_; rotate_left; (intro w'; go_simp; with_reducible rfl); rotate_left; exact xE
           refine pure_ (i := 18) (N := some 219) (v := ?_) (a' := ?_) x14a19 rfl rfl (any_of HT_.out (by kernel_rfl)) (fun _ _ _ h => h) (Or.inl ⟨by rfl, ?_⟩) ?_ ?_; rotate_left; (intro w'; go_simp; with_reducible rfl); rotate_left; exact xE
           refine take_ (i := 19) (N := some 220) (v := ?_) (a' := ?_) x14a20 rfl rfl (take_ofW HT_.out HW_.out (by kernel_rfl)) (fun _ _ _ h => h) (Or.inl ⟨by rfl, ?_⟩) hHeld ?_ ?_
           rotate_left
           ·rintro w' ⟨s0, s1, s2⟩
            go_simp
            with_reducible rfl
           rotate_left
           ·exact xE
           refine pure_ (i := 20) (N := some 221) (v := ?_) (a' := ?_) x14a21 rfl rfl (any_of HT_.out (by kernel_rfl)) (fun _ _ _ h => h) (Or.inl ⟨by rfl, ?_⟩) ?_ ?_; rotate_left; (intro w'; go_simp; with_reducible rfl); rotate_left; exact xE
           refine pure_ (i := 21) (N := some 222) (v := ?_) (a' := ?_) x14a22 rfl rfl (any_of HT_.out (by kernel_rfl)) (fun _ _ _ h => h) (Or.inl ⟨by rfl, ?_⟩) ?_ ?_; rotate_left; (intro w'; go_simp; with_reducible rfl); rotate_left; exact xE
           refine pure_ (i := 22) (N := some 223) (v := undef) (a' := ?_) x14a23 rfl rfl (any_of HT_.out (by kernel_rfl)) (fun _ _ _ h => h) (Or.inr ⟨by rfl, rfl⟩) ?_ ?_
           rotate_left
           ·exact xE
           refine pure_ (i := 23) (N := some 224) (v := undef) (a' := ?_) x14a24 rfl rfl (any_of HT_.out (by kernel_rfl)) (fun _ _ _ h => h) (Or.inr ⟨by rfl, rfl⟩) ?_ ?_
           rotate_left
           ·exact xE
           refine pure_ (i := 24) (N := some 225) (v := undef) (a' := ?_) x14a25 rfl rfl (any_of HT_.out (by kernel_rfl)) (fun _ _ _ h => h) (Or.inr ⟨by rfl, rfl⟩) ?_ ?_
           rotate_left
           ·exact xE
           refine pure_ (i := 25) (N := some 226) (v := undef) (a' := ?_) x14a26 rfl rfl (any_of HT_.out (by kernel_rfl)) (fun _ _ _ h => h) (Or.inr ⟨by rfl, rfl⟩) ?_ ?_
           rotate_left
           ·exact xE
           refine pure_ (i := 26) (N := some 227) (v := undef) (a' := ?_) x14a27 rfl rfl (any_of HT_.out (by kernel_rfl)) (fun _ _ _ h => h) (Or.inr ⟨by rfl, rfl⟩) ?_ ?_
           rotate_left
           ·exact xE
           refine pure_ (i := 27) (N := some 228) (v := undef) (a' := ?_) x14a28 rfl rfl (any_of HT_.out (by kernel_rfl)) (fun _ _ _ h => h) (Or.inr ⟨by rfl, rfl⟩) ?_ ?_
           rotate_left
           ·exact xE
           refine pure_ (i := 28) (N := some 229) (v := undef) (a' := ?_) x14a29 rfl rfl (any_of HT_.out (by kernel_rfl)) (fun _ _ _ h => h) (Or.inr ⟨by rfl, rfl⟩) ?_ ?_
           rotate_left
           ·exact xE
           refine pure_ (i := 29) (N := some 230) (v := undef) (a' := ?_) x14a30 rfl rfl (any_of HT_.out (by kernel_rfl)) (fun _ _ _ h => h) (Or.inr ⟨by rfl, rfl⟩) ?_ ?_
           rotate_left
           ·exact xE
           refine pure_ (i := 30) (N := some 231) (v := undef) (a' := ?_) x14a31 rfl rfl (any_of HT_.out (by kernel_rfl)) (fun _ _ _ h => h) (Or.inr ⟨by rfl, rfl⟩) ?_ ?_
           rotate_left
           ·exact xE
           refine pure_ (i := 31) (N := some 232) (v := ?_) (a' := ?_) x14a32 rfl rfl (any_of HT_.out (by kernel_rfl)) (fun _ _ _ h => h) (Or.inl ⟨by rfl, ?_⟩) ?_ ?_; rotate_left; (intro w'; go_simp; with_reducible rfl); rotate_left; exact xE
           refine pure_ (i := 32) (N := some 233) (v := ?_) (a' := ?_) x14a33 rfl rfl (any_of HT_.out (by kernel_rfl)) (fun _ _ _ h => h) (Or.inl ⟨by rfl, ?_⟩) ?_ ?_; rotate_left; (intro w'; go_simp; with_reducible rfl); rotate_left; exact xE
           refine done_ (done_of HT_.out (by kernel_rfl)) ?_
           try go_wp2
           go_roundg k4
           case measure => have := HJ9.out; have := HJ37.out; have := HK3.out; have := HK4.out; omega
           case rel => exact ⟨(wrap64 (x183_4 + 1)), (by first | rfl | (simp; done) | (simp [*]; done)), H', ⟨by have := HJ9.out; have := HJ37.out; have := HK3.out; have := HK4.out; omega⟩, ⟨xR HO_6.out⟩, ⟨xR HO_10.out⟩, ⟨xR HO_14.out⟩, ⟨xR HO_18.out⟩, ⟨xR HO_181.out⟩, ⟨by (with_reducible repeat (first | refine blk_drewN ?_ _ | refine blk_drew ?_ | refine blk_alloc ?_ _)); exact BK464.out⟩, ⟨by repeat (first | (with_reducible first | exact HB.out | apply below_alloc | apply pw_below_drewN | apply below_drew1 | refine below_set ?_ GE464.out) | exact HB.out)⟩⟩
          subst c69
          rw [if_pos rfl] at H
          by_cases c70 : x183_4 < (t465.length : Int)
          rotate_left
          ·rw [if_neg c70] at H
           exact absurd H (by simp)
          rw [if_pos c70] at H
          have c70b0 : decide (x183_4 < (t465.length : Int)) = true := decide_eq_true c70
          clear c70
          obtain ⟨t501, A71, H⟩ := xO H
          (try dsimp only at H)
          by_cases c72 : (rd t465 x183_4) = t501
          rotate_left
          ·rw [if_neg c72] at H
           have c72b0 : ((rd t465 x183_4) == t501) = false := beq_eq_false_iff_ne.mpr c72
           have c72b1 : ((rd t465 x183_4) != t501) = true := bne_iff_ne.mpr c72
           exact absurd ((Option.some.inj H).trans HRT.out) (by decide)
          rw [if_pos c72] at H
          have c72b0 : ((rd t465 x183_4) == t501) = true := beq_iff_eq.mpr c72
          have c72b1 : ((rd t465 x183_4) != t501) = false := bne_eq_false_iff_eq.mpr c72
          clear c72
          have H' := Aside0.mk H
          clear H
          have p494 : 0 ≤ (x183_4 : Int) := of_decide_eq_true (by first | (with_reducible assumption) | assumption)
          have q494 : x183_4 < (t483.length : Int) := of_decide_eq_true (by first | (with_reducible assumption) | assumption)
          obtain ⟨ad494, e494, hx494_0⟩ := Kd.at_int (Kd.R_reads' HO_181.out).2.2 x183_4 p494 q494
          cases e494
          replace p494 := eq_true p494
          replace q494 := eq_true q494
          try go_wp2_with (first | (refine xG (some 192) Try.func61 #[.int .i64 (rd t483 x183_4), .int .i64 t462, .int .i64 t463] ?_; (with_reducible refine (impl_RoundShift.calls k4 (rd t483 x183_4) t462 t463 t495 true _ A62.out).mono ?_); rintro e w' ⟨rfl, ⟨nd, rfl⟩⟩; refine ⟨_, rfl, ?_⟩; have hcz73_0 : wr.cell? ⟨gb464, 0, none⟩ = some (.int .i64 t454) := (blk_cell BK464.out 0).trans rfl; have hcz73_1 : wr.cell? ⟨gb464, 1, none⟩ = some (.bool true) := (blk_cell BK464.out 1).trans rfl; have hfz73_0 := blk_frozen BK464.out 0; have hfz73_1 := blk_frozen BK464.out 1) | (refine xG (some 198) Try.func62 #[.agg #[.int .i64 t454, .bool true], .int .i64 t495] ?_; (with_reducible refine (impl_FitNumber.calls t454 true t495 t497 true _ A63.out).mono ?_); rintro e w74 ⟨rfl, hb⟩; refine ⟨_, rfl, ?_⟩; replace HO_6 := Aside0.mk (Kd.R_below (xR HO_6.out) hb); replace HO_10 := Aside0.mk (Kd.R_below (xR HO_10.out) hb); replace HO_14 := Aside0.mk (Kd.R_below (xR HO_14.out) hb); replace HO_18 := Aside0.mk (Kd.R_below (xR HO_18.out) hb); replace HO_181 := Aside0.mk (Kd.R_below (xR HO_181.out) hb); replace BK464 := Aside0.mk (blk_below (g := gb464) (o := .cells #[.int .i64 t454, .bool true] 46 (0, 0)) (by (with_reducible repeat (first | refine blk_drewN ?_ _ | refine blk_drew ?_ | refine blk_alloc ?_ _)); exact BK464.out) hb); replace HB := Aside0.mk (below_step (by repeat (first | (with_reducible first | exact HB.out | apply below_alloc | apply pw_below_drewN | apply below_drew1 | refine below_set ?_ GE464.out) | exact HB.out)) hb); (try clear hb); (try clear hb2); (try clear hk); (try clear hi)))
          have n0_ := Aside0.mk (Kd.R_drew HO_6.out)
          have n1_ := Aside0.mk (Kd.R_drew HO_10.out)
          have n2_ := Aside0.mk (Kd.R_drew HO_14.out)
          have n3_ := Aside0.mk (Kd.R_drew HO_18.out)
          have n4_ := Aside0.mk (Kd.R_drew HO_181.out)
          have n5_ := Aside0.mk (blk_drew BK464.out)
          have n6_ := Aside0.mk (below_drew1 HB.out)
          clear HO_6
          clear HO_10
          clear HO_14
          clear HO_18
          clear HO_181
          clear BK464
          clear HB
          have HO_6 := n0_
          have HO_10 := n1_
          have HO_14 := n2_
          have HO_18 := n3_
          have HO_181 := n4_
          have BK464 := n5_
          have HB := n6_
          clear n0_ n1_ n2_ n3_ n4_ n5_ n6_
          obtain ⟨Ao76, co76, eo76⟩ := Kd.R_slice HO_14.out
          (first | subst eo76 | (injection eo76 with f1_ f2_ f3_; have f4_ := f1_.symm; have f5_ := f3_.symm; clear f1_ f2_ f3_; subst f4_; subst f5_))
          have p499 : 0 ≤ (x183_4 : Int) := of_decide_eq_true (by first | (with_reducible assumption) | assumption)
          have q499 : x183_4 < (t473.length : Int) := of_decide_eq_true (by first | (with_reducible assumption) | assumption)
          obtain ⟨ad499, e499, hx499_0⟩ := Kd.at_int (Kd.R_reads' HO_14.out).2.2 x183_4 p499 q499
          cases e499
          replace p499 := eq_true p499
          replace q499 := eq_true q499
          have p500 : 0 ≤ (x183_4 : Int) := of_decide_eq_true (by first | (with_reducible assumption) | assumption)
          have q500 : x183_4 < (t465.length : Int) := of_decide_eq_true (by first | (with_reducible assumption) | assumption)
          obtain ⟨ad500, e500, hx500_0⟩ := Kd.at_int (Kd.R_reads' HO_10.out).2.2 x183_4 p500 q500
          cases e500
          replace p500 := eq_true p500
          replace q500 := eq_true q500
          refine start_ (n := 33) (S := fun w' => w'.cell? ⟨gb464, 0, none⟩ = some (.int .i64 t454) ∧ w'.cell? ⟨gb464, 1, none⟩ = some (.bool true) ∧ w'.cell? (ad499.add (x183_4).toNat) = some (.int .i64 (rd t473 x183_4)) ∧ w'.cell? (ad500.add (x183_4).toNat) = some (.int .i64 (rd t465 x183_4))) (ds := []) x14a0 (by kernel_rfl) rfl rfl ⟨(blk_cell BK464.out 0).trans rfl, (blk_cell BK464.out 1).trans rfl, hx499_0, hx500_0⟩ (fun hHeld => ?_); refine with_tabW laws_FnFiltersInWords.tab27 laws_FnFiltersInWords.bits27 (fun HT_ HW_ => ?_)
          generalize w74.drew = w75 at HO_6 HO_10 HO_14 HO_18 HO_181 BK464 HB hx499_0 hx500_0 hHeld ⊢
          refine pure_ (i := 0) (N := some 201) (v := ?_) (a' := ?_) x14a1 rfl rfl (any_of HT_.out (by kernel_rfl)) (fun _ _ _ h => h) (Or.inl ⟨by rfl, ?_⟩) ?_ ?_; rotate_left; (intro w'; go_simp; with_reducible rfl); rotate_left; exact xE
          refine pure_ (i := 1) (N := some 202) (v := ?_) (a' := ?_) x14a2 rfl rfl (any_of HT_.out (by kernel_rfl)) (fun _ _ _ h => h) (Or.inl ⟨by rfl, ?_⟩) ?_ ?_; rotate_left; (intro w'; go_simp; with_reducible rfl); rotate_left; exact xE
          refine pure_ (i := 2) (N := some 203) (v := ?_) (a' := ?_) x14a3 rfl rfl (any_of HT_.out (by kernel_rfl)) (fun _ _ _ h => h) (Or.inl ⟨by rfl, ?_⟩) ?_ ?_; rotate_left; (intro w'; go_simp; with_reducible rfl); rotate_left; exact xE
          refine pure_ (i := 3) (N := some 204) (v := ?_) (a' := ?_) x14a4 rfl rfl (any_of HT_.out (by kernel_rfl)) (fun _ _ _ h => h) (Or.inl ⟨by rfl, ?_⟩) ?_ ?_; rotate_left; (intro w'; go_simp; with_reducible rfl); rotate_left; exact xE
          refine pure_ (i := 4) (N := some 205) (v := ?_) (a' := ?_) x14a5 rfl rfl (any_of HT_.out (by kernel_rfl)) (fun _ _ _ h => h) (Or.inl ⟨by rfl, ?_⟩) ?_ ?_; rotate_left; (intro w'; go_simp; with_reducible rfl); rotate_left; exact xE
          refine pure_ (i := 5) (N := some 206) (v := ?_) (a' := ?_) x14a6 rfl rfl (any_of HT_.out (by kernel_rfl)) (fun _ _ _ h => h) (Or.inl ⟨by rfl, ?_⟩) ?_ ?_; rotate_left; (intro w'; go_simp; with_reducible rfl); rotate_left; exact xE
          refine pure_ (i := 6) (N := some 207) (v := ?_) (a' := ?_) x14a7 rfl rfl (any_of HT_.out (by kernel_rfl)) (fun _ _ _ h => h) (Or.inl ⟨by rfl, ?_⟩) ?_ ?_; rotate_left; (intro w'; go_simp; with_reducible rfl); rotate_left; exact xE
          refine pure_ (i := 7) (N := some 208) (v := ?_) (a' := ?_) x14a8 rfl rfl (any_of HT_.out (by kernel_rfl)) (fun _ _ _ h => h) (Or.inl ⟨by rfl, ?_⟩) ?_ ?_; rotate_left; (intro w'; go_simp; with_reducible rfl); rotate_left; exact xE
          refine pure_ (i := 8) (N := some 209) (v := ?_) (a' := ?_) x14a9 rfl rfl (any_of HT_.out (by kernel_rfl)) (fun _ _ _ h => h) (Or.inl ⟨by rfl, ?_⟩) ?_ ?_; rotate_left; (intro w'; go_simp; with_reducible rfl); rotate_left; exact xE
          refine pure_ (i := 9) (N := some 210) (v := ?_) (a' := ?_) x14a10 rfl rfl (any_of HT_.out (by kernel_rfl)) (fun _ _ _ h => h) (Or.inl ⟨by rfl, ?_⟩) ?_ ?_; rotate_left; (intro w'; go_simp; with_reducible rfl); rotate_left; exact xE
          refine pure_ (i := 11) (N := some 212) (v := ?_) (a' := ?_) x14a11 rfl rfl (any_of HT_.out (by kernel_rfl)) (fun _ _ _ h => h) (Or.inl ⟨by rfl, ?_⟩) ?_ ?_; rotate_left; (intro w'; go_simp; with_reducible rfl); rotate_left; exact xE
          refine take_ (i := 10) (N := some 211) (v := ?_) (a' := ?_) x14a12 rfl rfl (take_ofW HT_.out HW_.out (by kernel_rfl)) (fun _ _ _ h => h) (Or.inl ⟨by rfl, ?_⟩) hHeld ?_ ?_
          rotate_left
          ·rintro w' ⟨s0, s1, s2, s3⟩
           go_simp
           with_reducible rfl
          rotate_left
          ·exact xE
          refine pure_ (i := 12) (N := some 213) (v := ?_) (a' := ?_) x14a13 rfl rfl (any_of HT_.out (by kernel_rfl)) (fun _ _ _ h => h) (Or.inl ⟨by rfl, ?_⟩) ?_ ?_; rotate_left; (intro w'; go_simp; with_reducible rfl); rotate_left; exact xE
          refine pure_ (i := 13) (N := some 214) (v := ?_) (a' := ?_) x14a14 rfl rfl (any_of HT_.out (by kernel_rfl)) (fun _ _ _ h => h) (Or.inl ⟨by rfl, ?_⟩) ?_ ?_; rotate_left; (intro w'; go_simp; with_reducible rfl); rotate_left; exact xE
          refine pure_ (i := 14) (N := some 215) (v := ?_) (a' := ?_) x14a15 rfl rfl (any_of HT_.out (by kernel_rfl)) (fun _ _ _ h => h) (Or.inl ⟨by rfl, ?_⟩) ?_ ?_; rotate_left; (intro w'; go_simp; with_reducible rfl); rotate_left; exact xE
          refine pure_ (i := 15) (N := some 216) (v := ?_) (a' := ?_) x14a16 rfl rfl (any_of HT_.out (by kernel_rfl)) (fun _ _ _ h => h) (Or.inl ⟨by rfl, ?_⟩) ?_ ?_; rotate_left; (intro w'; go_simp; with_reducible rfl); rotate_left; exact xE
          refine pure_ (i := 16) (N := some 217) (v := ?_) (a' := ?_) x14a17 rfl rfl (any_of HT_.out (by kernel_rfl)) (fun _ _ _ h => h) (Or.inl ⟨by rfl, ?_⟩) ?_ ?_; rotate_left; (intro w'; go_simp; with_reducible rfl); rotate_left; exact xE
          refine pure_ (i := 17) (N := some 218) (v := ?_) (a' := ?_) x14a18 rfl rfl (any_of HT_.out (by kernel_rfl)) (fun _ _ _ h => h) (Or.inl ⟨by rfl, ?_⟩) ?_ ?_; rotate_left; (intro w'; go_simp; with_reducible rfl); rotate_left; exact xE
          refine pure_ (i := 18) (N := some 219) (v := ?_) (a' := ?_) x14a19 rfl rfl (any_of HT_.out (by kernel_rfl)) (fun _ _ _ h => h) (Or.inl ⟨by rfl, ?_⟩) ?_ ?_; rotate_left; (intro w'; go_simp; with_reducible rfl); rotate_left; exact xE
          refine take_ (i := 19) (N := some 220) (v := ?_) (a' := ?_) x14a20 rfl rfl (take_ofW HT_.out HW_.out (by kernel_rfl)) (fun _ _ _ h => h) (Or.inl ⟨by rfl, ?_⟩) hHeld ?_ ?_
          rotate_left
          ·rintro w' ⟨s0, s1, s2, s3⟩
           go_simp
           with_reducible rfl
          rotate_left
          ·exact xE
          refine pure_ (i := 20) (N := some 221) (v := ?_) (a' := ?_) x14a21 rfl rfl (any_of HT_.out (by kernel_rfl)) (fun _ _ _ h => h) (Or.inl ⟨by rfl, ?_⟩) ?_ ?_; rotate_left; (intro w'; go_simp; with_reducible rfl); rotate_left; exact xE
          refine pure_ (i := 21) (N := some 222) (v := ?_) (a' := ?_) x14a22 rfl rfl (any_of HT_.out (by kernel_rfl)) (fun _ _ _ h => h) (Or.inl ⟨by rfl, ?_⟩) ?_ ?_; rotate_left; (intro w'; go_simp; with_reducible rfl); rotate_left; exact xE
          refine pure_ (i := 22) (N := some 223) (v := ?_) (a' := ?_) x14a23 rfl rfl (any_of HT_.out (by kernel_rfl)) (fun _ _ _ h => h) (Or.inl ⟨by rfl, ?_⟩) ?_ ?_; rotate_left; (intro w'; go_simp; with_reducible rfl); rotate_left; exact xE
          refine pure_ (i := 23) (N := some 224) (v := ?_) (a' := ?_) x14a24 rfl rfl (any_of HT_.out (by kernel_rfl)) (fun _ _ _ h => h) (Or.inl ⟨by rfl, ?_⟩) ?_ ?_; rotate_left; (intro w'; go_simp; with_reducible rfl); rotate_left; exact xE
          refine pure_ (i := 24) (N := some 225) (v := ?_) (a' := ?_) x14a25 rfl rfl (any_of HT_.out (by kernel_rfl)) (fun _ _ _ h => h) (Or.inl ⟨by rfl, ?_⟩) ?_ ?_; rotate_left; (intro w'; go_simp; with_reducible rfl); rotate_left; exact xE
          refine pure_ (i := 26) (N := some 227) (v := ?_) (a' := ?_) x14a34 rfl rfl (any_of HT_.out (by kernel_rfl)) (fun _ _ _ h => h) (Or.inl ⟨by rfl, ?_⟩) ?_ ?_; rotate_left; (intro w'; go_simp; with_reducible rfl); rotate_left; exact xE
          refine pure_ (i := 27) (N := some 228) (v := ?_) (a' := ?_) x14a35 rfl rfl (any_of HT_.out (by kernel_rfl)) (fun _ _ _ h => h) (Or.inl ⟨by rfl, ?_⟩) ?_ ?_; rotate_left; (intro w'; go_simp; with_reducible rfl); rotate_left; exact xE
          refine take_ (i := 25) (N := some 226) (v := ?_) (a' := ?_) x14a28 rfl rfl (take_ofW HT_.out HW_.out (by kernel_rfl)) (fun _ _ _ h => h) (Or.inl ⟨by rfl, ?_⟩) hHeld ?_ ?_
          rotate_left
          ·rintro w' ⟨s0, s1, s2, s3⟩
           go_simp
           with_reducible rfl
          rotate_left
          ·exact xE
          refine take_ (i := 28) (N := some 229) (v := ?_) (a' := ?_) x14a29 rfl rfl (take_ofW HT_.out HW_.out (by kernel_rfl)) (fun _ _ _ h => h) (Or.inl ⟨by rfl, ?_⟩) hHeld ?_ ?_
          rotate_left
          ·rintro w' ⟨s0, s1, s2, s3⟩
           go_simp
           with_reducible rfl
          rotate_left
          ·exact xE
          refine one_ (i := 29) (N := some 230) x14a30 rfl rfl (one_of HT_.out (by kernel_rfl)) (by decide) (fun K hK => ?_)
          refine goes_ Try.func63 (by kernel_rfl) rfl #[.int .i64 (rd t483 x183_4), .int .i64 t454] (by rfl) rfl rfl (by (try simp only [List.map_toArray, List.map_cons, List.map_nil]); first | done | rfl | (simp only [List.length_drop, List.length_take]; rfl)) ?_
          with_reducible refine (laws_iWrap.calls (rd t483 x183_4) t454 t501 _ A71.out).mono ?_
          rintro e w' ⟨rfl, ⟨nd, rfl⟩⟩
          refine ⟨_, rfl, ?_⟩
          refine hK.out _ _ ⟨(blk_cell BK464.out 0).trans rfl, (blk_cell BK464.out 1).trans rfl, hHeld.2.2.1, hHeld.2.2.2⟩ (fun hHeld => ?_)
          clear hK K
          refine norm_ (a' := ?_) ?_ ?_
          rotate_left
          ·show Act.put _ (some 230) _ = _
           simp only [Act.put, List.setIfInBounds_toArray, List.set_cons_zero, List.set_cons_succ, i64_w, i32_w]
           rfl
          refine pure_ (i := 30) (N := some 231) (v := ?_) (a' := ?_) x14a31 rfl rfl (any_of HT_.out (by kernel_rfl)) (fun _ _ _ h => h) (Or.inl ⟨by rfl, ?_⟩) ?_ ?_; rotate_left; (intro w'; go_simp; with_reducible rfl); rotate_left; exact xE
          refine pure_ (i := 31) (N := some 232) (v := ?_) (a' := ?_) x14a32 rfl rfl (any_of HT_.out (by kernel_rfl)) (fun _ _ _ h => h) (Or.inl ⟨by rfl, ?_⟩) ?_ ?_; rotate_left; (intro w'; go_simp; with_reducible rfl); rotate_left; exact xE
          refine pure_ (i := 32) (N := some 233) (v := ?_) (a' := ?_) x14a33 rfl rfl (any_of HT_.out (by kernel_rfl)) (fun _ _ _ h => h) (Or.inl ⟨by rfl, ?_⟩) ?_ ?_; rotate_left; (intro w'; go_simp; with_reducible rfl); rotate_left; exact xE
          refine done_ (done_of HT_.out (by kernel_rfl)) ?_
          try go_wp2
          go_roundg k4
          case measure => have := HJ9.out; have := HJ37.out; have := HK3.out; have := HK4.out; omega
          case rel => exact ⟨(wrap64 (x183_4 + 1)), (by first | rfl | (simp; done) | (simp [*]; done)), H', ⟨by have := HJ9.out; have := HJ37.out; have := HK3.out; have := HK4.out; omega⟩, ⟨xR HO_6.out⟩, ⟨xR HO_10.out⟩, ⟨xR HO_14.out⟩, ⟨xR HO_18.out⟩, ⟨xR HO_181.out⟩, ⟨by (with_reducible repeat (first | refine blk_drewN ?_ _ | refine blk_drew ?_ | refine blk_alloc ?_ _)); exact BK464.out⟩, ⟨by repeat (first | (with_reducible first | exact HB.out | apply below_alloc | apply pw_below_drewN | apply below_drew1 | refine below_set ?_ GE464.out) | exact HB.out)⟩⟩
   case rest => as_aux_lemma =>
    clear HC34
    obtain ⟨kq, HA, HJ33, BK464, HB⟩ := hcut
    cases kq with
    | zero => exact absurd HA.out (by simp [laws_FnFiltersInWords.j4])
    | succ kj33 =>
     have H := HA.out
     clear HA
     simp only [laws_FnFiltersInWords.j4] at H
     replace H := Option.bind_eq_some_iff.mp H
     obtain ⟨⟨t506, t509, t510⟩, A1050, H⟩ := H
     (try dsimp only at H)
     have A105 := Aside0.mk A1050
     clear A1050
     replace H := Option.bind_eq_some_iff.mp H
     obtain ⟨⟨t512, t513⟩, A1060, H⟩ := H
     (try dsimp only at H)
     have A106 := Aside0.mk A1060
     clear A1060
     replace H := Option.bind_eq_some_iff.mp H
     obtain ⟨⟨t514, t515⟩, A1070, H⟩ := H
     (try dsimp only at H)
     have A107 := Aside0.mk A1070
     clear A1070
     have HC108 := Aside0.mk H
     clear H
     go_upto_region 36 with (first | (refine xG (some 266) Try.func65 #[.slice A1 l1.length c1] ?_; (with_reducible refine (spec_DrawBitsNeeded.calls kj33 _ _ l1 t506 t509 t510 _ ?side1 ?side2 A105.out).mono ?_); (case side1 => exact xC (Kd.C_below HR1.out HB.out)); (case side2 => exact HC1.out); rintro e w109 ⟨v507, rfl, ho0, hb⟩; refine ⟨_, rfl, ?_⟩; have HO508 := Aside0.mk (Kd.R_lower ho0 (below_size (by repeat (first | (with_reducible first | exact HB.out | apply below_alloc | apply pw_below_drewN | apply below_drew1 | refine below_set ?_ GE464.out) | exact HB.out)))); replace BK464 := Aside0.mk (blk_below (g := gb464) (o := .cells #[.int .i64 t454, .bool t455] 46 (0, 0)) (by (with_reducible repeat (first | refine blk_drewN ?_ _ | refine blk_drew ?_ | refine blk_alloc ?_ _)); exact BK464.out) hb); replace HB := Aside0.mk (below_step (by repeat (first | (with_reducible first | exact HB.out | apply below_alloc | apply pw_below_drewN | apply below_drew1 | refine below_set ?_ GE464.out) | exact HB.out)) hb); (try clear hb); (try clear hb2); (try clear hk); (try clear hi); (try clear ho0)) | ((with_reducible refine gate_dst (N := 33) rfl ?_); (try (refine gate_guard (by rfl) ?_; dsimp only)); refine box_event ?hg (N := 33) ?hd (cs := #[.int .i64 0, .bool false]) (t := 46) ?hr ?_; (case hd => rfl); (case hg => rfl); (case hr => first | (go_simp; done) | (go_simp; rfl)); intro gb511 hg w110 hbox hb; replace HO508 := Aside0.mk (Kd.R_below (xR HO508.out) hb); have BK511 := Aside0.mk (hbox); have GW511 := Aside0.mk ((by rw [hg]; exact (below_size (by repeat (first | (with_reducible first | exact HB.out | apply below_alloc | apply pw_below_drewN | apply below_drew1 | refine below_set ?_ GE464.out) | exact HB.out))) : w.heap.size ≤ gb511)); have GE511 := Aside0.mk ((by rw [hg]; exact (below_size (by repeat (first | (with_reducible first | exact HB.out | apply below_alloc | apply pw_below_drewN | apply below_drew1 | refine below_set ?_ GE464.out) | exact HB.out))) : w.heap.size ≤ gb511)); replace HB := Aside0.mk (below_step (by repeat (first | (with_reducible first | exact HB.out | apply below_alloc | apply pw_below_drewN | apply below_drew1 | refine below_set ?_ GE464.out) | exact HB.out)) hb); have NB464_511 := Aside0.mk ((by rw [hg]; exact Nat.ne_of_lt (blk_lt (g := gb464) (o := .cells #[.int .i64 t454, .bool t455] 46 (0, 0)) (by (with_reducible repeat (first | refine blk_drewN ?_ _ | refine blk_drew ?_ | refine blk_alloc ?_ _)); exact BK464.out)) : gb464 ≠ gb511)); have NB511_464 := Aside0.mk ((by rw [hg]; exact Nat.ne_of_gt (blk_lt (g := gb464) (o := .cells #[.int .i64 t454, .bool t455] 46 (0, 0)) (by (with_reducible repeat (first | refine blk_drewN ?_ _ | refine blk_drew ?_ | refine blk_alloc ?_ _)); exact BK464.out)) : gb511 ≠ gb464)); replace BK464 := Aside0.mk (blk_below (g := gb464) (o := .cells #[.int .i64 t454, .bool t455] 46 (0, 0)) (by (with_reducible repeat (first | refine blk_drewN ?_ _ | refine blk_drew ?_ | refine blk_alloc ?_ _)); exact BK464.out) hb); clear hb hbox hg; have hnb111 := NB511_464.out; have hnc111 := NB464_511.out; have hcz112_0 : w110.cell? ⟨gb511, 0, none⟩ = some (.int .i64 0) := (blk_cell BK511.out 0).trans rfl; have hcz112_1 : w110.cell? ⟨gb511, 1, none⟩ = some (.bool false) := (blk_cell BK511.out 1).trans rfl; have hfz112_0 := blk_frozen BK511.out 0; have hfz112_1 := blk_frozen BK511.out 1; obtain ⟨Ao113, co113, eo113⟩ := Kd.R_slice HO508.out; subst eo113) | (refine xG (some 272) Try.func64 #[.slice Ao113 t506.length co113, .agg #[.int .i64 t509, .bool t510]] ?_; (with_reducible refine (impl_BitsNeeded.calls kj33 _ _ t506 t509 t510 t512 t513 _ ?side1 ?side2 A106.out).mono ?_); (case side1 => refine (Kd.R_reads' (e := 3) (base := w.heap.size) (ok := fun k_ => True) (n := t506.length) (c := co113) ?_).2.2; exact (by (with_reducible repeat (first | apply Kd.R_alloc | apply Kd.R_drewN | apply Kd.R_drew)); exact (Kd.R_mono (Kd.R_far (p := ⟨gb511, 1, none⟩) (Kd.R_far (p := ⟨gb511, 0, none⟩) (Kd.R_types HO508.out BK511.out (by decide)) (fun _ hk => hk.2) (.int .i64 t509)) (fun _ hk => hk.2) (.bool t510)) (fun _ h_ => h_.1)))); (case side2 => exact (Kd.R_reads' HO508.out).2.1); rintro e w114 ⟨rfl, hb⟩; refine ⟨_, rfl, ?_⟩; replace HO508 := Aside0.mk (Kd.R_below (by (with_reducible repeat (first | apply Kd.R_alloc | apply Kd.R_drewN | apply Kd.R_drew)); exact (Kd.R_mono (Kd.R_far (p := ⟨gb511, 1, none⟩) (Kd.R_far (p := ⟨gb511, 0, none⟩) (Kd.R_types HO508.out BK511.out (by decide)) (fun _ hk => hk.2) (.int .i64 t509)) (fun _ hk => hk.2) (.bool t510)) (fun _ h_ => h_.1))) hb); replace BK464 := Aside0.mk (blk_below (g := gb464) (o := .cells #[.int .i64 t454, .bool t455] 46 (0, 0)) (by (with_reducible repeat (first | refine blk_drewN ?_ _ | refine blk_drew ?_ | refine blk_alloc ?_ _)); refine blk_far ?_ NB464_511.out _; (with_reducible repeat (first | refine blk_drewN ?_ _ | refine blk_drew ?_ | refine blk_alloc ?_ _)); refine blk_far ?_ NB464_511.out _; (with_reducible repeat (first | refine blk_drewN ?_ _ | refine blk_drew ?_ | refine blk_alloc ?_ _)); exact BK464.out) hb); replace BK511 := Aside0.mk (blk_below (g := gb511) (o := .cells #[.int .i64 t509, .bool t510] 46 (0, 0)) (by (with_reducible repeat (first | refine blk_drewN ?_ _ | refine blk_drew ?_ | refine blk_alloc ?_ _)); refine blk_put (cs := #[.int .i64 t509, .bool false]) ?_ 1 _ rfl; (with_reducible repeat (first | refine blk_drewN ?_ _ | refine blk_drew ?_ | refine blk_alloc ?_ _)); refine blk_put (cs := #[.int .i64 0, .bool false]) ?_ 0 _ rfl; (with_reducible repeat (first | refine blk_drewN ?_ _ | refine blk_drew ?_ | refine blk_alloc ?_ _)); exact BK511.out) hb); replace HB := Aside0.mk (below_step (by repeat (first | (with_reducible first | exact HB.out | apply below_alloc | apply pw_below_drewN | apply below_drew1 | refine below_set ?_ GE464.out | refine below_set ?_ GE511.out) | exact HB.out)) hb); (try clear hb); (try clear hb2); (try clear hk); (try clear hi); have hcz115_0 : w114.cell? ⟨gb511, 0, none⟩ = some (.int .i64 t509) := (blk_cell BK511.out 0).trans rfl; have hcz115_1 : w114.cell? ⟨gb511, 1, none⟩ = some (.bool t510) := (blk_cell BK511.out 1).trans rfl; have hfz115_0 := blk_frozen BK511.out 0; have hfz115_1 := blk_frozen BK511.out 1) | (refine xG (some 278) Try.func66 #[.slice Ao113 t506.length co113, .agg #[.int .i64 t509, .bool t510]] ?_; (with_reducible refine (spec_BitsNeeded.calls kj33 _ _ t506 t509 t510 t514 t515 _ ?side1 ?side2 A107.out).mono ?_); (case side1 => exact xC ((Kd.R_reads' HO508.out).2.2)); (case side2 => exact (Kd.R_reads' HO508.out).2.1); rintro e w116 ⟨rfl, hb⟩; refine ⟨_, rfl, ?_⟩; replace HO508 := Aside0.mk (Kd.R_below (xR HO508.out) hb); replace BK464 := Aside0.mk (blk_below (g := gb464) (o := .cells #[.int .i64 t454, .bool t455] 46 (0, 0)) (by (with_reducible repeat (first | refine blk_drewN ?_ _ | refine blk_drew ?_ | refine blk_alloc ?_ _)); exact BK464.out) hb); replace BK511 := Aside0.mk (blk_below (g := gb511) (o := .cells #[.int .i64 t509, .bool t510] 46 (0, 0)) (by (with_reducible repeat (first | refine blk_drewN ?_ _ | refine blk_drew ?_ | refine blk_alloc ?_ _)); exact BK511.out) hb); replace HB := Aside0.mk (below_step (by repeat (first | (with_reducible first | exact HB.out | apply below_alloc | apply pw_below_drewN | apply below_drew1 | refine below_set ?_ GE464.out | refine below_set ?_ GE511.out) | exact HB.out)) hb); (try clear hb); (try clear hb2); (try clear hk); (try clear hi)))
     (try simp only [Act.put, List.setIfInBounds_toArray, List.set_cons_zero, List.set_cons_succ])
     go_cut [288] (fun v288 wc => ∃ (kq : Nat) (x288_107 : Bool), v288 = .bool x288_107 ∧ Aside0 (laws_FnFiltersInWords.j5 kq t506 t512 t513 x288_107 t509 t510 = some r) ∧ Aside0 (kq ≤ kj33) ∧ Aside0 (Kd.R (Kd.int .i64) 3 wc w.heap.size (fun _ => True) (.slice Ao113 t506.length co113) t506) ∧ Aside0 (wc.heap[gb464]? = some (.cells #[.int .i64 t454, .bool t455] 46 (0, 0))) ∧ Aside0 (wc.heap[gb511]? = some (.cells #[.int .i64 t509, .bool t510] 46 (0, 0))) ∧ Aside0 (Below w.heap.size w wc))
     case first => as_aux_lemma =>
      have H := HC108.out
      clear HC108
      by_cases c117 : (t513 != t515) = true
      ·rw [if_pos c117] at H; exact absurd H (by have hr_ := HRT.out; cases kj33 <;> simp [laws_FnFiltersInWords.j5, hr_])
      as_aux_lemma =>
       rw [if_neg c117] at H
       have c117b0 : (t513 != t515) = false := by simpa using c117
       (try (have c117b1 : decide (t513 = t515) = true := by simpa using c117))
       (try (have c117b2 : (t513 == t515) = true := by simpa using c117))
       clear c117
       (first | rw [c117b0] | (simp only [i64_w, i32_w]; rw [c117b0]) | skip)
       have H' := Aside0.mk H
       clear H
       go_wp2
       go_meet
       case rel => exact ⟨_, ((t512 != t514)), (by first | rfl | (simp; done) | (simp [*]; done)), H', ⟨by have := HJ9.out; have := HJ33.out; first | omega | exact Nat.le_refl _⟩, ⟨xR HO508.out⟩, ⟨by (with_reducible repeat (first | refine blk_drewN ?_ _ | refine blk_drew ?_ | refine blk_alloc ?_ _)); exact BK464.out⟩, ⟨by (with_reducible repeat (first | refine blk_drewN ?_ _ | refine blk_drew ?_ | refine blk_alloc ?_ _)); exact BK511.out⟩, ⟨by repeat (first | (with_reducible first | exact HB.out | apply below_alloc | apply pw_below_drewN | apply below_drew1 | refine below_set ?_ GE464.out | refine below_set ?_ GE511.out) | exact HB.out)⟩⟩
     case rest => as_aux_lemma =>
      clear HC108
      try clear hcz112_0
      try clear hcz112_1
      try clear hcz115_0
      try clear hcz115_1
      try clear hfz112_0
      try clear hfz112_1
      try clear hfz115_0
      try clear hfz115_1
      obtain ⟨kq, x288_107, rfl, HA, HJ107, HO_32, BK464, BK511, HB⟩ := hcut
      cases kq with
      | zero => exact absurd HA.out (by simp [laws_FnFiltersInWords.j5])
      | succ kj107 =>
       have H := HA.out
       clear HA
       simp only [laws_FnFiltersInWords.j5] at H
       by_cases c118 : x288_107 = true
       ·as_aux_lemma =>
         subst c118
         rw [if_pos rfl] at H
         exact absurd ((Option.some.inj H).trans HRT.out) (by decide)
       replace c118 := Bool.eq_false_iff.mpr c118
       subst c118
       rw [if_neg (show ¬ (false = true) by decide)] at H
       by_cases c119 : t513 = true
       rotate_left
       ·as_aux_lemma =>
         replace c119 := Bool.eq_false_iff.mpr c119
         subst c119
         rw [if_neg (show ¬ (false = true) by decide)] at H
         obtain rfl := Option.some.inj H
         go_wp2
         go_ret
         exact ⟨by first | rfl | (simp [errW_none, errW_some] <;> rfl) | (simp [*, errW_none, errW_some] <;> rfl), by repeat (first | (with_reducible first | exact HB.out | apply below_alloc | apply pw_below_drewN | apply below_drew1 | refine below_set ?_ GE464.out | refine below_set ?_ GE511.out) | exact HB.out)⟩

       subst c119
       rw [if_pos rfl] at H
       replace H := Option.bind_eq_some_iff.mp H
       obtain ⟨⟨t516, t517⟩, A1200, H⟩ := H
       (try dsimp only at H)
       have A120 := Aside0.mk A1200
       clear A1200
       replace H := Option.bind_eq_some_iff.mp H
       obtain ⟨⟨t518, t519, t520⟩, A1210, H⟩ := H
       (try dsimp only at H)
       have A121 := Aside0.mk A1210
       clear A1210
       by_cases c122 : t517 = true
       rotate_left
       ·as_aux_lemma =>
         replace c122 := Bool.eq_false_iff.mpr c122
         subst c122
         rw [if_neg (show ¬ (false = true) by decide)] at H
         exact absurd ((Option.some.inj H).trans HRT.out) (by decide)
       subst c122
       rw [if_pos rfl] at H
       by_cases c123 : t520 = true
       rotate_left
       ·as_aux_lemma =>
         replace c123 := Bool.eq_false_iff.mpr c123
         subst c123
         rw [if_neg (show ¬ (false = true) by decide)] at H
         exact absurd ((Option.some.inj H).trans HRT.out) (by decide)
       subst c123
       rw [if_pos rfl] at H
       obtain ⟨ji124, hji124⟩ : ∃ j_ : Int, (wrap64 (t512 - 1)) = j_ := ⟨_, rfl⟩
       replace H : (if 0 ≤ (ji124) then (if (wrap64 (t516 * (wrap64 (-t518)))) > (wrap64 ((shl .i64 1 (ji124)) + t516)) then (some false) else (if t512 > 2 then (if 0 ≤ (wrap64 (t512 - 2)) then (if (wrap64 (t516 * (wrap64 ((wrap64 (-t518)) - 1)))) < (wrap64 ((shl .i64 1 (wrap64 (t512 - 2))) - t516)) then (if t516 > 0 then (if (wrap64 (t516 * (wrap64 (-t518)))) < (shl .i64 1 (wrap64 (t512 - 2))) then (some false) else (some true)) else (some true)) else (some true)) else (none)) else (some true))) else (none)) = some r := by first | (rw [hji124] at H; exact H) | (simp only [hji124] at H ⊢; exact H)
       (try rw [hji124] at A120)
       (try rw [hji124] at A121)
       have hji124w : (IntKind.i64.wrap (t512 - 1)) = ji124 := (i64_w _).trans hji124
       by_cases c125 : 0 ≤ (ji124)
       rotate_left
       ·rw [if_neg c125] at H
        exact absurd H (by simp)
       rw [if_pos c125] at H
       have c125b0 := eq_true c125
       have c125b1 : decide (0 ≤ (ji124)) = true := decide_eq_true c125
       clear c125
       obtain ⟨ji126, hji126⟩ : ∃ j_ : Int, (shl .i64 1 (ji124)) = j_ := ⟨_, rfl⟩
       replace H : (if (wrap64 (t516 * (wrap64 (-t518)))) > (wrap64 ((ji126) + t516)) then (some false) else (if t512 > 2 then (if 0 ≤ (wrap64 (t512 - 2)) then (if (wrap64 (t516 * (wrap64 ((wrap64 (-t518)) - 1)))) < (wrap64 ((shl .i64 1 (wrap64 (t512 - 2))) - t516)) then (if t516 > 0 then (if (wrap64 (t516 * (wrap64 (-t518)))) < (shl .i64 1 (wrap64 (t512 - 2))) then (some false) else (some true)) else (some true)) else (some true)) else (none)) else (some true))) = some r := by first | (rw [hji126] at H; exact H) | (simp only [hji126] at H ⊢; exact H)
       (try rw [hji126] at A120)
       (try rw [hji126] at A121)
       have hji126_ : (IntKind.i64.wrap (1 * 2 ^ min (ji124).toNat 64)) = ji126 := hji126
       have hji126z : (ji124) ≤ 64 → (IntKind.i64.wrap (1 * 2 ^ (ji124).toNat)) = ji126 := shl_small hji126
       have hji126u : (IntKind.i64.wrap (2 ^ min (ji124).toNat 64)) = ji126 := by have h_ := hji126_; rw [Int.one_mul] at h_; exact h_
       have hji126v : (ji124) ≤ 64 → (IntKind.i64.wrap (2 ^ (ji124).toNat)) = ji126 := fun hle_ => by have h_ := hji126z hle_; rw [Int.one_mul] at h_; exact h_
       have hji126y : (wrap64 (1 * 2 ^ min (ji124).toNat 64)) = ji126 := (i64_w _).symm.trans hji126_
       have hji126x : (ji124) ≤ 64 → (wrap64 (1 * 2 ^ (ji124).toNat)) = ji126 := fun h_ => (i64_w _).symm.trans (hji126z h_)
       by_cases c127 : (wrap64 (t516 * (wrap64 (-t518)))) > (wrap64 ((ji126) + t516))
       ·rw [if_pos c127] at H
        have c127b0 : decide ((wrap64 ((ji126) + t516)) < (wrap64 (t516 * (wrap64 (-t518))))) = true := decide_eq_true c127
        clear c127
        exact absurd ((Option.some.inj H).trans HRT.out) (by decide)
       rw [if_neg c127] at H
       have c127b0 : decide ((wrap64 ((ji126) + t516)) < (wrap64 (t516 * (wrap64 (-t518))))) = false := decide_eq_false c127
       clear c127
       by_cases c128 : t512 > 2
       rotate_left
       ·as_aux_lemma =>
         rw [if_neg c128] at H
         have c128b0 : decide (2 < t512) = false := decide_eq_false c128
         clear c128
         obtain rfl := Option.some.inj H
         go_wp2_with (first | (refine xG (some 292) Try.func67 #[.slice Ao113 t506.length co113] ?_; (with_reducible refine (impl_SizeGain.calls kj107 _ _ t506 t516 true _ ?side1 ?side2 A120.out).mono ?_); (case side1 => exact xC ((Kd.R_reads' HO_32.out).2.2)); (case side2 => exact (Kd.R_reads' HO_32.out).2.1); rintro e w148 ⟨rfl, hb⟩; refine ⟨_, rfl, ?_⟩; replace HO_32 := Aside0.mk (Kd.R_below (xR HO_32.out) hb); replace BK464 := Aside0.mk (blk_below (g := gb464) (o := .cells #[.int .i64 t454, .bool t455] 46 (0, 0)) (by (with_reducible repeat (first | refine blk_drewN ?_ _ | refine blk_drew ?_ | refine blk_alloc ?_ _)); exact BK464.out) hb); replace BK511 := Aside0.mk (blk_below (g := gb511) (o := .cells #[.int .i64 t509, .bool t510] 46 (0, 0)) (by (with_reducible repeat (first | refine blk_drewN ?_ _ | refine blk_drew ?_ | refine blk_alloc ?_ _)); exact BK511.out) hb); replace HB := Aside0.mk (below_step (by repeat (first | (with_reducible first | exact HB.out | apply below_alloc | apply pw_below_drewN | apply below_drew1 | refine below_set ?_ GE464.out | refine below_set ?_ GE511.out) | exact HB.out)) hb); (try clear hb); (try clear hb2); (try clear hk); (try clear hi); have hnb149 := NB511_464.out; have hnc149 := NB464_511.out; have hcz150_0 : w148.cell? ⟨gb511, 0, none⟩ = some (.int .i64 t509) := (blk_cell BK511.out 0).trans rfl; have hcz150_1 : w148.cell? ⟨gb511, 1, none⟩ = some (.bool t510) := (blk_cell BK511.out 1).trans rfl; have hfz150_0 := blk_frozen BK511.out 0; have hfz150_1 := blk_frozen BK511.out 1) | (refine xG (some 297) Try.func60 #[.agg #[.int .i64 t509, .bool t510]] ?_; (with_reducible refine (impl_RangeOf.calls t509 t510 t518 t519 true _ A121.out).mono ?_); rintro e w151 ⟨rfl, hb⟩; refine ⟨_, rfl, ?_⟩; replace HO_32 := Aside0.mk (Kd.R_below (xR HO_32.out) hb); replace BK464 := Aside0.mk (blk_below (g := gb464) (o := .cells #[.int .i64 t454, .bool t455] 46 (0, 0)) (by (with_reducible repeat (first | refine blk_drewN ?_ _ | refine blk_drew ?_ | refine blk_alloc ?_ _)); exact BK464.out) hb); replace BK511 := Aside0.mk (blk_below (g := gb511) (o := .cells #[.int .i64 t509, .bool t510] 46 (0, 0)) (by (with_reducible repeat (first | refine blk_drewN ?_ _ | refine blk_drew ?_ | refine blk_alloc ?_ _)); exact BK511.out) hb); replace HB := Aside0.mk (below_step (by repeat (first | (with_reducible first | exact HB.out | apply below_alloc | apply pw_below_drewN | apply below_drew1 | refine below_set ?_ GE464.out | refine below_set ?_ GE511.out) | exact HB.out)) hb); (try clear hb); (try clear hb2); (try clear hk); (try clear hi)))
         go_ret
         exact ⟨by first | rfl | (simp [errW_none, errW_some] <;> rfl) | (simp only [← hji124, ← hji126]; first | rfl | (simp [errW_none, errW_some] <;> rfl)) | (simp [*, errW_none, errW_some] <;> rfl), by repeat (first | (with_reducible first | exact HB.out | apply below_alloc | apply pw_below_drewN | apply below_drew1 | refine below_set ?_ GE464.out | refine below_set ?_ GE511.out) | exact HB.out)⟩
       as_aux_lemma =>
        rw [if_pos c128] at H
        have c128b0 : decide (2 < t512) = true := decide_eq_true c128
        clear c128
        obtain ⟨ji129, hji129⟩ : ∃ j_ : Int, (wrap64 (t512 - 2)) = j_ := ⟨_, rfl⟩
        replace H : (if 0 ≤ (ji129) then (if (wrap64 (t516 * (wrap64 ((wrap64 (-t518)) - 1)))) < (wrap64 ((shl .i64 1 (ji129)) - t516)) then (if t516 > 0 then (if (wrap64 (t516 * (wrap64 (-t518)))) < (shl .i64 1 (ji129)) then (some false) else (some true)) else (some true)) else (some true)) else (none)) = some r := by first | (rw [hji129] at H; exact H) | (simp only [hji129] at H ⊢; exact H)
        (try rw [hji129] at A120)
        (try rw [hji129] at A121)
        have hji129w : (IntKind.i64.wrap (t512 - 2)) = ji129 := (i64_w _).trans hji129
        by_cases c130 : 0 ≤ (ji129)
        rotate_left
        ·rw [if_neg c130] at H
         exact absurd H (by simp)
        rw [if_pos c130] at H
        have c130b0 := eq_true c130
        have c130b1 : decide (0 ≤ (ji129)) = true := decide_eq_true c130
        clear c130
        obtain ⟨ji131, hji131⟩ : ∃ j_ : Int, (shl .i64 1 (ji129)) = j_ := ⟨_, rfl⟩
        replace H : (if (wrap64 (t516 * (wrap64 ((wrap64 (-t518)) - 1)))) < (wrap64 ((ji131) - t516)) then (if t516 > 0 then (if (wrap64 (t516 * (wrap64 (-t518)))) < (ji131) then (some false) else (some true)) else (some true)) else (some true)) = some r := by first | (rw [hji131] at H; exact H) | (simp only [hji131] at H ⊢; exact H)
        (try rw [hji131] at A120)
        (try rw [hji131] at A121)
        have hji131_ : (IntKind.i64.wrap (1 * 2 ^ min (ji129).toNat 64)) = ji131 := hji131
        have hji131z : (ji129) ≤ 64 → (IntKind.i64.wrap (1 * 2 ^ (ji129).toNat)) = ji131 := shl_small hji131
        have hji131u : (IntKind.i64.wrap (2 ^ min (ji129).toNat 64)) = ji131 := by have h_ := hji131_; rw [Int.one_mul] at h_; exact h_
        have hji131v : (ji129) ≤ 64 → (IntKind.i64.wrap (2 ^ (ji129).toNat)) = ji131 := fun hle_ => by have h_ := hji131z hle_; rw [Int.one_mul] at h_; exact h_
        have hji131y : (wrap64 (1 * 2 ^ min (ji129).toNat 64)) = ji131 := (i64_w _).symm.trans hji131_
        have hji131x : (ji129) ≤ 64 → (wrap64 (1 * 2 ^ (ji129).toNat)) = ji131 := fun h_ => (i64_w _).symm.trans (hji131z h_)
        by_cases c132 : (wrap64 (t516 * (wrap64 ((wrap64 (-t518)) - 1)))) < (wrap64 ((ji131) - t516))
        rotate_left
        ·rw [if_neg c132] at H
         have c132b0 : decide ((wrap64 (t516 * (wrap64 ((wrap64 (-t518)) - 1)))) < (wrap64 ((ji131) - t516))) = false := decide_eq_false c132
         clear c132
         obtain rfl := Option.some.inj H
         go_wp2_with (first | (refine xG (some 292) Try.func67 #[.slice Ao113 t506.length co113] ?_; (with_reducible refine (impl_SizeGain.calls kj107 _ _ t506 t516 true _ ?side1 ?side2 A120.out).mono ?_); (case side1 => exact xC ((Kd.R_reads' HO_32.out).2.2)); (case side2 => exact (Kd.R_reads' HO_32.out).2.1); rintro e w144 ⟨rfl, hb⟩; refine ⟨_, rfl, ?_⟩; replace HO_32 := Aside0.mk (Kd.R_below (xR HO_32.out) hb); replace BK464 := Aside0.mk (blk_below (g := gb464) (o := .cells #[.int .i64 t454, .bool t455] 46 (0, 0)) (by (with_reducible repeat (first | refine blk_drewN ?_ _ | refine blk_drew ?_ | refine blk_alloc ?_ _)); exact BK464.out) hb); replace BK511 := Aside0.mk (blk_below (g := gb511) (o := .cells #[.int .i64 t509, .bool t510] 46 (0, 0)) (by (with_reducible repeat (first | refine blk_drewN ?_ _ | refine blk_drew ?_ | refine blk_alloc ?_ _)); exact BK511.out) hb); replace HB := Aside0.mk (below_step (by repeat (first | (with_reducible first | exact HB.out | apply below_alloc | apply pw_below_drewN | apply below_drew1 | refine below_set ?_ GE464.out | refine below_set ?_ GE511.out) | exact HB.out)) hb); (try clear hb); (try clear hb2); (try clear hk); (try clear hi); have hnb145 := NB511_464.out; have hnc145 := NB464_511.out; have hcz146_0 : w144.cell? ⟨gb511, 0, none⟩ = some (.int .i64 t509) := (blk_cell BK511.out 0).trans rfl; have hcz146_1 : w144.cell? ⟨gb511, 1, none⟩ = some (.bool t510) := (blk_cell BK511.out 1).trans rfl; have hfz146_0 := blk_frozen BK511.out 0; have hfz146_1 := blk_frozen BK511.out 1) | (refine xG (some 297) Try.func60 #[.agg #[.int .i64 t509, .bool t510]] ?_; (with_reducible refine (impl_RangeOf.calls t509 t510 t518 t519 true _ A121.out).mono ?_); rintro e w147 ⟨rfl, hb⟩; refine ⟨_, rfl, ?_⟩; replace HO_32 := Aside0.mk (Kd.R_below (xR HO_32.out) hb); replace BK464 := Aside0.mk (blk_below (g := gb464) (o := .cells #[.int .i64 t454, .bool t455] 46 (0, 0)) (by (with_reducible repeat (first | refine blk_drewN ?_ _ | refine blk_drew ?_ | refine blk_alloc ?_ _)); exact BK464.out) hb); replace BK511 := Aside0.mk (blk_below (g := gb511) (o := .cells #[.int .i64 t509, .bool t510] 46 (0, 0)) (by (with_reducible repeat (first | refine blk_drewN ?_ _ | refine blk_drew ?_ | refine blk_alloc ?_ _)); exact BK511.out) hb); replace HB := Aside0.mk (below_step (by repeat (first | (with_reducible first | exact HB.out | apply below_alloc | apply pw_below_drewN | apply below_drew1 | refine below_set ?_ GE464.out | refine below_set ?_ GE511.out) | exact HB.out)) hb); (try clear hb); (try clear hb2); (try clear hk); (try clear hi)))
         go_ret
         exact ⟨by first | rfl | (simp [errW_none, errW_some] <;> rfl) | (simp only [← hji124, ← hji126, ← hji129, ← hji131]; first | rfl | (simp [errW_none, errW_some] <;> rfl)) | (simp [*, errW_none, errW_some] <;> rfl), by repeat (first | (with_reducible first | exact HB.out | apply below_alloc | apply pw_below_drewN | apply below_drew1 | refine below_set ?_ GE464.out | refine below_set ?_ GE511.out) | exact HB.out)⟩
        rw [if_pos c132] at H
        have c132b0 : decide ((wrap64 (t516 * (wrap64 ((wrap64 (-t518)) - 1)))) < (wrap64 ((ji131) - t516))) = true := decide_eq_true c132
        clear c132
        by_cases c133 : t516 > 0
        rotate_left
        ·rw [if_neg c133] at H
         have c133b0 : decide (0 < t516) = false := decide_eq_false c133
         clear c133
         obtain rfl := Option.some.inj H
         go_wp2_with (first | (refine xG (some 292) Try.func67 #[.slice Ao113 t506.length co113] ?_; (with_reducible refine (impl_SizeGain.calls kj107 _ _ t506 t516 true _ ?side1 ?side2 A120.out).mono ?_); (case side1 => exact xC ((Kd.R_reads' HO_32.out).2.2)); (case side2 => exact (Kd.R_reads' HO_32.out).2.1); rintro e w140 ⟨rfl, hb⟩; refine ⟨_, rfl, ?_⟩; replace HO_32 := Aside0.mk (Kd.R_below (xR HO_32.out) hb); replace BK464 := Aside0.mk (blk_below (g := gb464) (o := .cells #[.int .i64 t454, .bool t455] 46 (0, 0)) (by (with_reducible repeat (first | refine blk_drewN ?_ _ | refine blk_drew ?_ | refine blk_alloc ?_ _)); exact BK464.out) hb); replace BK511 := Aside0.mk (blk_below (g := gb511) (o := .cells #[.int .i64 t509, .bool t510] 46 (0, 0)) (by (with_reducible repeat (first | refine blk_drewN ?_ _ | refine blk_drew ?_ | refine blk_alloc ?_ _)); exact BK511.out) hb); replace HB := Aside0.mk (below_step (by repeat (first | (with_reducible first | exact HB.out | apply below_alloc | apply pw_below_drewN | apply below_drew1 | refine below_set ?_ GE464.out | refine below_set ?_ GE511.out) | exact HB.out)) hb); (try clear hb); (try clear hb2); (try clear hk); (try clear hi); have hnb141 := NB511_464.out; have hnc141 := NB464_511.out; have hcz142_0 : w140.cell? ⟨gb511, 0, none⟩ = some (.int .i64 t509) := (blk_cell BK511.out 0).trans rfl; have hcz142_1 : w140.cell? ⟨gb511, 1, none⟩ = some (.bool t510) := (blk_cell BK511.out 1).trans rfl; have hfz142_0 := blk_frozen BK511.out 0; have hfz142_1 := blk_frozen BK511.out 1) | (refine xG (some 297) Try.func60 #[.agg #[.int .i64 t509, .bool t510]] ?_; (with_reducible refine (impl_RangeOf.calls t509 t510 t518 t519 true _ A121.out).mono ?_); rintro e w143 ⟨rfl, hb⟩; refine ⟨_, rfl, ?_⟩; replace HO_32 := Aside0.mk (Kd.R_below (xR HO_32.out) hb); replace BK464 := Aside0.mk (blk_below (g := gb464) (o := .cells #[.int .i64 t454, .bool t455] 46 (0, 0)) (by (with_reducible repeat (first | refine blk_drewN ?_ _ | refine blk_drew ?_ | refine blk_alloc ?_ _)); exact BK464.out) hb); replace BK511 := Aside0.mk (blk_below (g := gb511) (o := .cells #[.int .i64 t509, .bool t510] 46 (0, 0)) (by (with_reducible repeat (first | refine blk_drewN ?_ _ | refine blk_drew ?_ | refine blk_alloc ?_ _)); exact BK511.out) hb); replace HB := Aside0.mk (below_step (by repeat (first | (with_reducible first | exact HB.out | apply below_alloc | apply pw_below_drewN | apply below_drew1 | refine below_set ?_ GE464.out | refine below_set ?_ GE511.out) | exact HB.out)) hb); (try clear hb); (try clear hb2); (try clear hk); (try clear hi)))
         go_ret
         exact ⟨by first | rfl | (simp [errW_none, errW_some] <;> rfl) | (simp only [← hji124, ← hji126, ← hji129, ← hji131]; first | rfl | (simp [errW_none, errW_some] <;> rfl)) | (simp [*, errW_none, errW_some] <;> rfl), by repeat (first | (with_reducible first | exact HB.out | apply below_alloc | apply pw_below_drewN | apply below_drew1 | refine below_set ?_ GE464.out | refine below_set ?_ GE511.out) | exact HB.out)⟩
        rw [if_pos c133] at H
        have c133b0 : decide (0 < t516) = true := decide_eq_true c133
        clear c133
        have c134b0 := eq_true (of_decide_eq_true (by first | (with_reducible assumption) | assumption) : 0 ≤ (ji129))
        by_cases c135 : (wrap64 (t516 * (wrap64 (-t518)))) < (ji131)
        ·rw [if_pos c135] at H
         have c135b0 : decide ((wrap64 (t516 * (wrap64 (-t518)))) < (ji131)) = true := decide_eq_true c135
         clear c135
         exact absurd ((Option.some.inj H).trans HRT.out) (by decide)
        rw [if_neg c135] at H
        have c135b0 : decide ((wrap64 (t516 * (wrap64 (-t518)))) < (ji131)) = false := decide_eq_false c135
        clear c135
        obtain rfl := Option.some.inj H
        go_wp2_with (first | (refine xG (some 292) Try.func67 #[.slice Ao113 t506.length co113] ?_; (with_reducible refine (impl_SizeGain.calls kj107 _ _ t506 t516 true _ ?side1 ?side2 A120.out).mono ?_); (case side1 => exact xC ((Kd.R_reads' HO_32.out).2.2)); (case side2 => exact (Kd.R_reads' HO_32.out).2.1); rintro e w136 ⟨rfl, hb⟩; refine ⟨_, rfl, ?_⟩; replace HO_32 := Aside0.mk (Kd.R_below (xR HO_32.out) hb); replace BK464 := Aside0.mk (blk_below (g := gb464) (o := .cells #[.int .i64 t454, .bool t455] 46 (0, 0)) (by (with_reducible repeat (first | refine blk_drewN ?_ _ | refine blk_drew ?_ | refine blk_alloc ?_ _)); exact BK464.out) hb); replace BK511 := Aside0.mk (blk_below (g := gb511) (o := .cells #[.int .i64 t509, .bool t510] 46 (0, 0)) (by (with_reducible repeat (first | refine blk_drewN ?_ _ | refine blk_drew ?_ | refine blk_alloc ?_ _)); exact BK511.out) hb); replace HB := Aside0.mk (below_step (by repeat (first | (with_reducible first | exact HB.out | apply below_alloc | apply pw_below_drewN | apply below_drew1 | refine below_set ?_ GE464.out | refine below_set ?_ GE511.out) | exact HB.out)) hb); (try clear hb); (try clear hb2); (try clear hk); (try clear hi); have hnb137 := NB511_464.out; have hnc137 := NB464_511.out; have hcz138_0 : w136.cell? ⟨gb511, 0, none⟩ = some (.int .i64 t509) := (blk_cell BK511.out 0).trans rfl; have hcz138_1 : w136.cell? ⟨gb511, 1, none⟩ = some (.bool t510) := (blk_cell BK511.out 1).trans rfl; have hfz138_0 := blk_frozen BK511.out 0; have hfz138_1 := blk_frozen BK511.out 1) | (refine xG (some 297) Try.func60 #[.agg #[.int .i64 t509, .bool t510]] ?_; (with_reducible refine (impl_RangeOf.calls t509 t510 t518 t519 true _ A121.out).mono ?_); rintro e w139 ⟨rfl, hb⟩; refine ⟨_, rfl, ?_⟩; replace HO_32 := Aside0.mk (Kd.R_below (xR HO_32.out) hb); replace BK464 := Aside0.mk (blk_below (g := gb464) (o := .cells #[.int .i64 t454, .bool t455] 46 (0, 0)) (by (with_reducible repeat (first | refine blk_drewN ?_ _ | refine blk_drew ?_ | refine blk_alloc ?_ _)); exact BK464.out) hb); replace BK511 := Aside0.mk (blk_below (g := gb511) (o := .cells #[.int .i64 t509, .bool t510] 46 (0, 0)) (by (with_reducible repeat (first | refine blk_drewN ?_ _ | refine blk_drew ?_ | refine blk_alloc ?_ _)); exact BK511.out) hb); replace HB := Aside0.mk (below_step (by repeat (first | (with_reducible first | exact HB.out | apply below_alloc | apply pw_below_drewN | apply below_drew1 | refine below_set ?_ GE464.out | refine below_set ?_ GE511.out) | exact HB.out)) hb); (try clear hb); (try clear hb2); (try clear hk); (try clear hi)))
        go_ret
        exact ⟨by first | rfl | (simp [errW_none, errW_some] <;> rfl) | (simp only [← hji124, ← hji126, ← hji129, ← hji131]; first | rfl | (simp [errW_none, errW_some] <;> rfl)) | (simp [*, errW_none, errW_some] <;> rfl), by repeat (first | (with_reducible first | exact HB.out | apply below_alloc | apply pw_below_drewN | apply below_drew1 | refine below_set ?_ GE464.out | refine below_set ?_ GE511.out) | exact HB.out)⟩
/-- THE ONE PURE STATEMENT of laws_FnFiltersInWords: yours. -/
def laws_FnFiltersInWords.Pure : Prop := ∀ (l0 : List Int) (l1 : List Int), l0.length ≤ maxLen → l0.length * 1 ≤ 140737488351232 → (∀ x ∈ l0, (Lit.int .u8 x).wf = true) → l1.length ≤ maxLen → l1.length * 1 ≤ 140737488351232 → (∀ x ∈ l1, (Lit.int .u8 x).wf = true) → ∃ k, laws_FnFiltersInWords.f k l0 l1 = some true
theorem laws_FnFiltersInWords.walk (P : laws_FnFiltersInWords.Pure) (a0 : Option Addr) (len0 cap0 : Nat) (z0 : List Int) (a1 : Option Addr) (len1 cap1 : Nat) (z1 : List Int) (w : World) (w0 : (a0 = none ∧ len0 = 0 ∧ cap0 = 0 ∧ z0 = []) ∨ ∃ x, a0 = some x ∧ len0 ≤ cap0 ∧ cap0 ≤ maxLen ∧ z0.length = cap0 ∧ (∀ i, i < z0.length → w.cell? (x.add i) = some (.int .u8 (z0.getD i 0))) ∧ ∀ n ∈ z0, (Lit.int .u8 n).wf = true) (y0 : len0 * 1 ≤ 140737488351232) (w1 : (a1 = none ∧ len1 = 0 ∧ cap1 = 0 ∧ z1 = []) ∨ ∃ x, a1 = some x ∧ len1 ≤ cap1 ∧ cap1 ≤ maxLen ∧ z1.length = cap1 ∧ (∀ i, i < z1.length → w.cell? (x.add i) = some (.int .u8 (z1.getD i 0))) ∧ ∀ n ∈ z1, (Lit.int .u8 n).wf = true) (y1 : len1 * 1 ≤ 140737488351232) :
  Calls Try.prog 5 #[.slice a0 len0 cap0, .slice a1 len1 cap1] w fun e w' => e = .returned (.bool true) ∧ Below w.heap.size w w' := by
 obtain ⟨l0, rfl, hr0, hm0, hw0, hc0⟩ := ReadsInt.ofRowC w0
 obtain ⟨l1, rfl, hr1, hm1, hw1, hc1⟩ := ReadsInt.ofRowC w1
 obtain ⟨k, h⟩ := P l0 l1 hm0 y0 hw0 hm1 y1 hw1
 refine (laws_FnFiltersInWords.calls k _ _ l0 _ _ l1 true w (Kd.C_of_reads (d := (0 : Int)) (h1 := fun _ => rfl) hr0) hc0 (Kd.C_of_reads (d := (0 : Int)) (h1 := fun _ => rfl) hr1) hc1 h rfl).mono ?_
 rintro e w' ⟨rfl, hd⟩
 exact ⟨rfl, hd⟩

end Go.Proofs.Ytjplcongellcmaa.PFnFiltersInWords
