/- What each Go function that the statement FnTonesFound reaches answers, proved call by call. No condition beyond those that the theorems print. (Written by wip/tools/xprint.py of this repo, over the kit's print.) -/
import Derived.Test.YtjplcongellcmaaDoorPFnTonesFoundx0
import Derived.Test.YtjplcongellcmaaDoorPFnTonesFoundx1
import Derived.Test.YtjplcongellcmaaDoorPFnTonesFoundx2
import Derived.Test.YtjplcongellcmaaDoorPFnTonesFoundx3
import Derived.Test.YtjplcongellcmaaDoorPFnTonesFoundx4
import Derived.Test.YtjplcongellcmaaDoorPFnTonesFoundx5
import Derived.Test.YtjplcongellcmaaDoorPFnTonesFoundx6
namespace Go.Proofs.YtjplcongellcmaaDoor.PFnTonesFound
open Go.RowKit Go.Proofs.YtjplcongellcmaaDoorW.PrintWords Go.Proofs.YtjplcongellcmaaDoorW.PrintLast Go.Proofs.YtjplcongellcmaaDoorW.PrintMore
attribute [local go_sem] max2_int min2_int max_two min_two max_three min_three max_four min_four   -- for this text's walks alone
set_option linter.unusedVariables false
set_option linter.unusedSimpArgs false

/-! ### laws_FnTonesFound: function 3 -/
mutual
def laws_FnTonesFound.j0 : Nat → List Int → List Int → List Int → Bool → List Int → Bool → Option (Bool)
 | 0, _, _, _, _, _, _ => none
 | k + 1, x1, x5, x6, x7, x10, x135 => if x135 = true then (some false) else (if x7 = true then ((some (([4, 6] : List Int) : List Int)).bind fun y420 => (laws_FnTonesFound.l0 k x1 x5 x6 x10 y420 (y420.length : Int) 0)) else (laws_FnTonesFound.j7 k x1))
def laws_FnTonesFound.j7 : Nat → List Int → Option (Bool)
 | 0, _ => none
 | k + 1, x1 => (spec_DrawFourTone.f k x1).bind fun bt451 => ((impl_FourTone.f k bt451.1 bt451.2).bind fun bt455 => ((spec_FourTone.f k bt451.1 bt451.2).bind fun bt458 => ((spec_DrawSixTone.f k x1).bind fun bt461 => ((impl_SixTone.f k bt461.1 bt461.2).bind fun bt465 => ((spec_SixTone.f k bt461.1 bt461.2).bind fun bt468 => ((spec_DrawToneOfPart.f x1).bind fun bt471 => ((impl_ToneOfPart.f k bt471.1 bt471.2.1 bt471.2.2.1 bt471.2.2.2).bind fun bt475 => ((spec_ToneOfPart.f k bt471.1 bt471.2.1 bt471.2.2.1 bt471.2.2.2).bind fun bt479 => ((spec_DrawToneStates.f k x1).bind fun bt483 => ((impl_ToneStates.f k bt483.1 bt483.2).bind fun bt487 => ((spec_ToneStates.f k bt483.1 bt483.2).bind fun bt490 => ((impl_TonePower.f k bt483.1 bt483.2).bind fun bt493 => ((spec_TonePower.f k bt483.1 bt483.2).bind fun bt495 => ((spec_DrawStrongestPart.f k x1).bind fun bt497 => ((impl_StrongestPart.f k bt497.1 bt497.2).bind fun bt501 => ((spec_StrongestPart.f k bt497.1 bt497.2).bind fun bt503 => (if (bt455.2.2 != bt458.2.2) = true then (laws_FnTonesFound.j8 k bt471.1 bt471.2.1 bt471.2.2.1 bt471.2.2.2 bt475.1 bt475.2 true) else (if bt455.1 = bt458.1 then (if bt455.2.1 = bt458.2.1 then (if (bt465.2.2 != bt468.2.2) = true then (laws_FnTonesFound.j8 k bt471.1 bt471.2.1 bt471.2.2.1 bt471.2.2.2 bt475.1 bt475.2 true) else (if bt465.1 = bt468.1 then (if bt465.2.1 = bt468.2.1 then (if (bt475.2 != bt479.2) = true then (laws_FnTonesFound.j8 k bt471.1 bt471.2.1 bt471.2.2.1 bt471.2.2.2 bt475.1 bt475.2 true) else ((laws_uSame.f k bt475.1 bt479.1).bind fun t505 => (if t505 = true then (if (bt487.2.2 != bt490.2.2) = true then (laws_FnTonesFound.j8 k bt471.1 bt471.2.1 bt471.2.2.1 bt471.2.2.2 bt475.1 bt475.2 true) else (if bt487.1 = bt490.1 then (if bt487.2.1 = bt490.2.1 then (if (bt493.2 != bt495.2) = true then (laws_FnTonesFound.j8 k bt471.1 bt471.2.1 bt471.2.2.1 bt471.2.2.2 bt475.1 bt475.2 true) else (if bt493.1 = bt495.1 then (if (bt501.2 != bt503.2) = true then (laws_FnTonesFound.j8 k bt471.1 bt471.2.1 bt471.2.2.1 bt471.2.2.2 bt475.1 bt475.2 true) else (laws_FnTonesFound.j8 k bt471.1 bt471.2.1 bt471.2.2.1 bt471.2.2.2 bt475.1 bt475.2 (bt501.1 != bt503.1))) else (laws_FnTonesFound.j8 k bt471.1 bt471.2.1 bt471.2.2.1 bt471.2.2.2 bt475.1 bt475.2 true))) else (laws_FnTonesFound.j8 k bt471.1 bt471.2.1 bt471.2.2.1 bt471.2.2.2 bt475.1 bt475.2 true)) else (laws_FnTonesFound.j8 k bt471.1 bt471.2.1 bt471.2.2.1 bt471.2.2.2 bt475.1 bt475.2 true))) else (laws_FnTonesFound.j8 k bt471.1 bt471.2.1 bt471.2.2.1 bt471.2.2.2 bt475.1 bt475.2 true)))) else (laws_FnTonesFound.j8 k bt471.1 bt471.2.1 bt471.2.2.1 bt471.2.2.2 bt475.1 bt475.2 true)) else (laws_FnTonesFound.j8 k bt471.1 bt471.2.1 bt471.2.2.1 bt471.2.2.2 bt475.1 bt475.2 true))) else (laws_FnTonesFound.j8 k bt471.1 bt471.2.1 bt471.2.2.1 bt471.2.2.2 bt475.1 bt475.2 true)) else (laws_FnTonesFound.j8 k bt471.1 bt471.2.1 bt471.2.2.1 bt471.2.2.2 bt475.1 bt475.2 true)))))))))))))))))))
def laws_FnTonesFound.j8 : Nat → Int → Int → Int → Int → List Int → Bool → Bool → Option (Bool)
 | 0, _, _, _, _, _, _, _ => none
 | k + 1, x50, x51, x52, x53, x54, x55, x486 => if x486 = true then (some false) else (if x55 = true then (if x53 > 0 then (if x50 = 0 then (none) else (if (Int.tmod x53 x50) = 0 then (if x52 > 0 then (if x51 > 0 then (laws_FnTonesFound.j9 k x50 x51 x54 (decide ((wrap64 (2 * x51)) < x50))) else (laws_FnTonesFound.j9 k x50 x51 x54 false)) else (laws_FnTonesFound.j9 k x50 x51 x54 false)) else (laws_FnTonesFound.j9 k x50 x51 x54 false))) else (laws_FnTonesFound.j9 k x50 x51 x54 false)) else (laws_FnTonesFound.j9 k x50 x51 x54 false))
def laws_FnTonesFound.j9 : Nat → Int → Int → List Int → Bool → Option (Bool)
 | 0, _, _, _, _ => none
 | k + 1, x50, x51, x54, x511 => if x511 = true then ((impl_FourPowers.f k x54).bind fun bt506 => (if x50 = 6 then ((impl_SixPowers.f k x54).bind fun bt510 => (laws_FnTonesFound.j10 k x50 x51 bt510.1 bt510.2)) else (laws_FnTonesFound.j10 k x50 x51 bt506.1 bt506.2))) else (some true)
def laws_FnTonesFound.j10 : Nat → Int → Int → List Int → Bool → Option (Bool)
 | 0, _, _, _, _ => none
 | k + 1, x50, x51, x76, x77 => if x77 = true then (laws_FnTonesFound.l4 k x50 x51 x76 (x76.length : Int) 0) else (some false)
def laws_FnTonesFound.l4 : Nat → Int → Int → List Int → Int → Int → Option (Bool)
 | 0, _, _, _, _, _ => none
 | k + 1, x50, x51, x526, x527, x528 => if x528 < x527 then (if 0 ≤ x528 then (if x528 < (x526.length : Int) then (if x528 = x51 then (if (((rd x526 x528) != 0) != true) = true then (some false) else (laws_FnTonesFound.l4 k x50 x51 x526 x527 (wrap64 (x528 + 1)))) else (if (((rd x526 x528) != 0) != (x528 == (wrap64 (x50 - x51)))) = true then (some false) else (laws_FnTonesFound.l4 k x50 x51 x526 x527 (wrap64 (x528 + 1))))) else (none)) else (none)) else (some true)
def laws_FnTonesFound.l0 : Nat → List Int → List Int → List Int → List Int → List Int → Int → Int → Option (Bool)
 | 0, _, _, _, _, _, _, _ => none
 | k + 1, x1, x5, x6, x10, x137, x138, x139 => if x139 < x138 then (if 0 ≤ x139 then (if x139 < (x137.length : Int) then (if (rd x137 x139) = 6 then (if 0 ≤ (rd x137 x139) then (if (rd x137 x139 : Int).toNat ≤ 35184372088832 then (laws_FnTonesFound.l1 k x1 x5 x6 x10 (rd x137 x139) x10 (List.replicate (rd x137 x139 : Int).toNat 0) x137 x138 x139 x5 (x5.length : Int) 0) else (none)) else (none)) else (if 0 ≤ (rd x137 x139) then (if (rd x137 x139 : Int).toNat ≤ 35184372088832 then (laws_FnTonesFound.l1 k x1 x5 x6 x10 (rd x137 x139) x6 (List.replicate (rd x137 x139 : Int).toNat 0) x137 x138 x139 x5 (x5.length : Int) 0) else (none)) else (none))) else (none)) else (none)) else ((impl_TonePower.f k x5 4).bind fun bt442 => ((impl_TonePower.f k x5 6).bind fun bt444 => ((impl_TonePower.f k x5 3).bind fun bt446 => (if bt442.2 = true then (if 1 < (x6.length : Int) then (if bt442.1 = (rd x6 1) then (if bt444.2 = true then (if 1 < (x10.length : Int) then (if bt444.1 = (rd x10 1) then (if bt446.2 = true then (if 2 < (x10.length : Int) then (if bt446.1 = (rd x10 2) then (laws_FnTonesFound.j7 k x1) else (some false)) else (none)) else (some false)) else (some false)) else (none)) else (some false)) else (some false)) else (none)) else (some false)))))
def laws_FnTonesFound.l1 : Nat → List Int → List Int → List Int → List Int → Int → List Int → List Int → List Int → Int → Int → List Int → Int → Int → Option (Bool)
 | 0, _, _, _, _, _, _, _, _, _, _, _, _, _ => none
 | k + 1, x1, x5, x6, x10, x15, x16, x17, x137, x138, x139, x149, x150, x151 => if x151 < x150 then (if 0 ≤ x151 then (if x151 < (x149.length : Int) then (if x15 = 0 then (none) else (if 0 ≤ (Int.tmod x151 x15) then (if (Int.tmod x151 x15) < (x17.length : Int) then (laws_FnTonesFound.l1 k x1 x5 x6 x10 x15 x16 (x17.set ((Int.tmod x151 x15) : Int).toNat (wrap64 ((rd x17 (Int.tmod x151 x15)) + (rd x149 x151)))) x137 x138 x139 x149 x150 (wrap64 (x151 + 1))) else (none)) else (none))) else (none)) else (none)) else (laws_FnTonesFound.l2 k x1 x5 x6 x10 x15 x16 x17 0 0 x137 x138 x139 x16 (x16.length : Int) 0)
def laws_FnTonesFound.l2 : Nat → List Int → List Int → List Int → List Int → Int → List Int → List Int → Int → Int → List Int → Int → Int → List Int → Int → Int → Option (Bool)
 | 0, _, _, _, _, _, _, _, _, _, _, _, _, _, _, _ => none
 | k + 1, x1, x5, x6, x10, x15, x16, x17, x20, x21, x137, x138, x139, x166, x167, x168 => if x168 < x167 then (if 0 ≤ x168 then (if x168 < (x166.length : Int) then (if x168 < (x17.length : Int) then (if (rd x166 x168) < 0 then (some false) else (if x15 = 0 then (none) else (if 0 ≤ (Int.tmod (wrap64 (x15 - x168)) x15) then (if (Int.tmod (wrap64 (x15 - x168)) x15) < (x16.length : Int) then (if (rd x166 x168) = (rd x16 (Int.tmod (wrap64 (x15 - x168)) x15)) then (laws_FnTonesFound.l2 k x1 x5 x6 x10 x15 x16 x17 (wrap64 (x20 + (rd x166 x168))) (wrap64 (x21 + (wrap64 ((rd x17 x168) * (rd x17 x168))))) x137 x138 x139 x166 x167 (wrap64 (x168 + 1))) else (some false)) else (none)) else (none)))) else (none)) else (none)) else (none)) else (if (x16.length : Int) = x15 then (laws_FnTonesFound.j4 k x1 x5 x6 x10 x15 x16 x137 x138 x139 (x20 != (wrap64 (x15 * x21)))) else (laws_FnTonesFound.j4 k x1 x5 x6 x10 x15 x16 x137 x138 x139 true))
def laws_FnTonesFound.j4 : Nat → List Int → List Int → List Int → List Int → Int → List Int → List Int → Int → Int → Bool → Option (Bool)
 | 0, _, _, _, _, _, _, _, _, _, _ => none
 | k + 1, x1, x5, x6, x10, x15, x16, x137, x138, x139, x212 => if x212 = true then (some false) else ((impl_StrongestPart.f k x5 x15).bind fun bt434 => (if bt434.2 = true then (if bt434.1 < 0 then (laws_FnTonesFound.j5 k x1 x5 x6 x10 x16 bt434.1 x137 x138 x139 true) else (laws_FnTonesFound.j5 k x1 x5 x6 x10 x16 bt434.1 x137 x138 x139 (decide (bt434.1 ≥ x15)))) else (laws_FnTonesFound.j5 k x1 x5 x6 x10 x16 bt434.1 x137 x138 x139 true)))
def laws_FnTonesFound.j5 : Nat → List Int → List Int → List Int → List Int → List Int → Int → List Int → Int → Int → Bool → Option (Bool)
 | 0, _, _, _, _, _, _, _, _, _, _ => none
 | k + 1, x1, x5, x6, x10, x16, x24, x137, x138, x139, x229 => if x229 = true then (some false) else (laws_FnTonesFound.l3 k x1 x5 x6 x10 x16 x24 x137 x138 x139 x16 (x16.length : Int) 0)
def laws_FnTonesFound.l3 : Nat → List Int → List Int → List Int → List Int → List Int → Int → List Int → Int → Int → List Int → Int → Int → Option (Bool)
 | 0, _, _, _, _, _, _, _, _, _, _, _, _ => none
 | k + 1, x1, x5, x6, x10, x16, x24, x137, x138, x139, x230, x231, x232 => if x232 < x231 then (if 0 ≤ x232 then (if x232 < (x230.length : Int) then (if 0 ≤ x24 then (if x24 < (x16.length : Int) then (if (rd x230 x232) > (rd x16 x24) then (some false) else (if x232 < x24 then (if (rd x230 x232) = (rd x16 x24) then (some false) else (laws_FnTonesFound.l3 k x1 x5 x6 x10 x16 x24 x137 x138 x139 x230 x231 (wrap64 (x232 + 1)))) else (laws_FnTonesFound.l3 k x1 x5 x6 x10 x16 x24 x137 x138 x139 x230 x231 (wrap64 (x232 + 1))))) else (none)) else (none)) else (none)) else (none)) else (laws_FnTonesFound.l0 k x1 x5 x6 x10 x137 x138 (wrap64 (x139 + 1)))
end
def laws_FnTonesFound.f (k : Nat) (l0 : List Int) (l1 : List Int) : Option (Bool) := (laws_big.f l0 l1).bind fun t397 => (if t397 = true then (some true) else ((spec_DrawFourPowers.f k l0).bind fun t398 => ((impl_FourPowers.f k t398).bind fun bt401 => ((spec_FourPowers.f k t398).bind fun bt405 => ((impl_SixPowers.f k t398).bind fun bt409 => ((spec_SixPowers.f k t398).bind fun bt413 => (if (bt401.2 != bt405.2) = true then (laws_FnTonesFound.j0 k l1 t398 bt401.1 bt401.2 bt409.1 true) else ((laws_uSame.f k bt401.1 bt405.1).bind fun t417 => (if t417 = true then (if (bt409.2 != bt413.2) = true then (laws_FnTonesFound.j0 k l1 t398 bt401.1 bt401.2 bt409.1 true) else ((laws_uSame.f k bt409.1 bt413.1).bind fun t418 => (if t418 = true then (if (bt409.2 != bt401.2) = true then (laws_FnTonesFound.j0 k l1 t398 bt401.1 bt401.2 bt409.1 true) else ((impl_IsSignal.f k t398).bind fun t419 => (laws_FnTonesFound.j0 k l1 t398 bt401.1 bt401.2 bt409.1 (bt401.2 != t419)))) else (laws_FnTonesFound.j0 k l1 t398 bt401.1 bt401.2 bt409.1 true)))) else (laws_FnTonesFound.j0 k l1 t398 bt401.1 bt401.2 bt409.1 true))))))))))
theorem laws_FnTonesFound.mono_l : ∀ k, (∀ y0 y1 y2 y3 y4 y5, LeO (laws_FnTonesFound.j0 k y0 y1 y2 y3 y4 y5) (laws_FnTonesFound.j0 (k + 1) y0 y1 y2 y3 y4 y5)) ∧ (∀ y0, LeO (laws_FnTonesFound.j7 k y0) (laws_FnTonesFound.j7 (k + 1) y0)) ∧ (∀ y0 y1 y2 y3 y4 y5 y6, LeO (laws_FnTonesFound.j8 k y0 y1 y2 y3 y4 y5 y6) (laws_FnTonesFound.j8 (k + 1) y0 y1 y2 y3 y4 y5 y6)) ∧ (∀ y0 y1 y2 y3, LeO (laws_FnTonesFound.j9 k y0 y1 y2 y3) (laws_FnTonesFound.j9 (k + 1) y0 y1 y2 y3)) ∧ (∀ y0 y1 y2 y3, LeO (laws_FnTonesFound.j10 k y0 y1 y2 y3) (laws_FnTonesFound.j10 (k + 1) y0 y1 y2 y3)) ∧ (∀ y0 y1 y2 y3 y4, LeO (laws_FnTonesFound.l4 k y0 y1 y2 y3 y4) (laws_FnTonesFound.l4 (k + 1) y0 y1 y2 y3 y4)) ∧ (∀ y0 y1 y2 y3 y4 y5 y6, LeO (laws_FnTonesFound.l0 k y0 y1 y2 y3 y4 y5 y6) (laws_FnTonesFound.l0 (k + 1) y0 y1 y2 y3 y4 y5 y6)) ∧ (∀ y0 y1 y2 y3 y4 y5 y6 y7 y8 y9 y10 y11 y12, LeO (laws_FnTonesFound.l1 k y0 y1 y2 y3 y4 y5 y6 y7 y8 y9 y10 y11 y12) (laws_FnTonesFound.l1 (k + 1) y0 y1 y2 y3 y4 y5 y6 y7 y8 y9 y10 y11 y12)) ∧ (∀ y0 y1 y2 y3 y4 y5 y6 y7 y8 y9 y10 y11 y12 y13 y14, LeO (laws_FnTonesFound.l2 k y0 y1 y2 y3 y4 y5 y6 y7 y8 y9 y10 y11 y12 y13 y14) (laws_FnTonesFound.l2 (k + 1) y0 y1 y2 y3 y4 y5 y6 y7 y8 y9 y10 y11 y12 y13 y14)) ∧ (∀ y0 y1 y2 y3 y4 y5 y6 y7 y8 y9, LeO (laws_FnTonesFound.j4 k y0 y1 y2 y3 y4 y5 y6 y7 y8 y9) (laws_FnTonesFound.j4 (k + 1) y0 y1 y2 y3 y4 y5 y6 y7 y8 y9)) ∧ (∀ y0 y1 y2 y3 y4 y5 y6 y7 y8 y9, LeO (laws_FnTonesFound.j5 k y0 y1 y2 y3 y4 y5 y6 y7 y8 y9) (laws_FnTonesFound.j5 (k + 1) y0 y1 y2 y3 y4 y5 y6 y7 y8 y9)) ∧ (∀ y0 y1 y2 y3 y4 y5 y6 y7 y8 y9 y10 y11, LeO (laws_FnTonesFound.l3 k y0 y1 y2 y3 y4 y5 y6 y7 y8 y9 y10 y11) (laws_FnTonesFound.l3 (k + 1) y0 y1 y2 y3 y4 y5 y6 y7 y8 y9 y10 y11))
 | 0 => ⟨fun _ _ _ _ _ _ r h => by simp [laws_FnTonesFound.j0] at h, fun _ r h => by simp [laws_FnTonesFound.j7] at h, fun _ _ _ _ _ _ _ r h => by simp [laws_FnTonesFound.j8] at h, fun _ _ _ _ r h => by simp [laws_FnTonesFound.j9] at h, fun _ _ _ _ r h => by simp [laws_FnTonesFound.j10] at h, fun _ _ _ _ _ r h => by simp [laws_FnTonesFound.l4] at h, fun _ _ _ _ _ _ _ r h => by simp [laws_FnTonesFound.l0] at h, fun _ _ _ _ _ _ _ _ _ _ _ _ _ r h => by simp [laws_FnTonesFound.l1] at h, fun _ _ _ _ _ _ _ _ _ _ _ _ _ _ _ r h => by simp [laws_FnTonesFound.l2] at h, fun _ _ _ _ _ _ _ _ _ _ r h => by simp [laws_FnTonesFound.j4] at h, fun _ _ _ _ _ _ _ _ _ _ r h => by simp [laws_FnTonesFound.j5] at h, fun _ _ _ _ _ _ _ _ _ _ _ _ r h => by simp [laws_FnTonesFound.l3] at h⟩
 | k + 1 => by
  obtain ⟨ih0, ih1, ih2, ih3, ih4, ih5, ih6, ih7, ih8, ih9, ih10, ih11⟩ := laws_FnTonesFound.mono_l k
  have m0 := @impl_FourPowers.mono
  have m1 := @impl_FourTone.mono
  have m2 := @impl_IsSignal.mono
  have m3 := @impl_SixPowers.mono
  have m4 := @impl_SixTone.mono
  have m5 := @impl_StrongestPart.mono
  have m6 := @impl_ToneOfPart.mono
  have m7 := @impl_TonePower.mono
  have m8 := @impl_ToneStates.mono
  have m9 := @laws_uSame.mono
  have m10 := @spec_DrawFourPowers.mono
  have m11 := @spec_DrawFourTone.mono
  have m12 := @spec_DrawSixTone.mono
  have m13 := @spec_DrawStrongestPart.mono
  have m14 := @spec_DrawToneStates.mono
  have m15 := @spec_FourPowers.mono
  have m16 := @spec_FourTone.mono
  have m17 := @spec_SixPowers.mono
  have m18 := @spec_SixTone.mono
  have m19 := @spec_StrongestPart.mono
  have m20 := @spec_ToneOfPart.mono
  have m21 := @spec_TonePower.mono
  have m22 := @spec_ToneStates.mono
  refine ⟨?_, ?_, ?_, ?_, ?_, ?_, ?_, ?_, ?_, ?_, ?_, ?_⟩ <;> intros
  ·unfold laws_FnTonesFound.j0; exact xM
  ·unfold laws_FnTonesFound.j7; exact xM
  ·unfold laws_FnTonesFound.j8; exact xM
  ·unfold laws_FnTonesFound.j9; exact xM
  ·unfold laws_FnTonesFound.j10; exact xM
  ·unfold laws_FnTonesFound.l4; exact xM
  ·unfold laws_FnTonesFound.l0; exact xM
  ·unfold laws_FnTonesFound.l1; exact xM
  ·unfold laws_FnTonesFound.l2; exact xM
  ·unfold laws_FnTonesFound.j4; exact xM
  ·unfold laws_FnTonesFound.j5; exact xM
  ·unfold laws_FnTonesFound.l3; exact xM
theorem laws_FnTonesFound.mono : ∀ a0 a1 k, LeO (laws_FnTonesFound.f k a0 a1) (laws_FnTonesFound.f (k + 1) a0 a1) := by
 intro a0 a1 k
 obtain ⟨ih0, ih1, ih2, ih3, ih4, ih5, ih6, ih7, ih8, ih9, ih10, ih11⟩ := laws_FnTonesFound.mono_l k
 have m0 := @impl_FourPowers.mono
 have m1 := @impl_FourTone.mono
 have m2 := @impl_IsSignal.mono
 have m3 := @impl_SixPowers.mono
 have m4 := @impl_SixTone.mono
 have m5 := @impl_StrongestPart.mono
 have m6 := @impl_ToneOfPart.mono
 have m7 := @impl_TonePower.mono
 have m8 := @impl_ToneStates.mono
 have m9 := @laws_uSame.mono
 have m10 := @spec_DrawFourPowers.mono
 have m11 := @spec_DrawFourTone.mono
 have m12 := @spec_DrawSixTone.mono
 have m13 := @spec_DrawStrongestPart.mono
 have m14 := @spec_DrawToneStates.mono
 have m15 := @spec_FourPowers.mono
 have m16 := @spec_FourTone.mono
 have m17 := @spec_SixPowers.mono
 have m18 := @spec_SixTone.mono
 have m19 := @spec_StrongestPart.mono
 have m20 := @spec_ToneOfPart.mono
 have m21 := @spec_TonePower.mono
 have m22 := @spec_ToneStates.mono
 unfold laws_FnTonesFound.f
 exact xM
end Go.Proofs.YtjplcongellcmaaDoor.PFnTonesFound
