/- What each Go function that the statement FnFirstCycles reaches answers, proved call by call. No condition beyond those that the theorems print. (Written by wip/tools/xprint.py of this repo, over the kit's print.) -/
import Derived.Test.YtjplcongellcmaaPFnFirstCyclesx0
import Derived.Test.YtjplcongellcmaaPFnFirstCyclesx1
import Derived.Test.YtjplcongellcmaaPFnFirstCyclesx2
import Derived.Test.YtjplcongellcmaaPFnFirstCyclesx4
import Derived.Test.YtjplcongellcmaaPFnFirstCyclesx8
import Derived.Test.YtjplcongellcmaaPFnFirstCyclesx9
import Derived.Test.YtjplcongellcmaaPFnFirstCyclesx10
import Derived.Test.YtjplcongellcmaaPFnFirstCyclesx11
import Derived.Test.YtjplcongellcmaaPFnFirstCyclesx12
import Derived.Test.YtjplcongellcmaaPFnFirstCyclesx13
namespace Go.Proofs.Ytjplcongellcmaa.PFnFirstCycles
open Go.RowKit Go.Proofs.YtjplcongellcmaaW.PrintWords Go.Proofs.YtjplcongellcmaaW.PrintLast Go.Proofs.YtjplcongellcmaaW.PrintMore
attribute [local go_sem] max2_int min2_int max_two min_two max_three min_three max_four min_four   -- for this text's walks alone
set_option linter.unusedVariables false
set_option linter.unusedSimpArgs false
def x14a0 : Array Bool := #[Zz,Zz,Zz,Zz,Zz,Zz,Zz,Zz,Zz,Zz,Zz,Zz,Zz,Zz,Zz,Zz,Zz,Zz,Zz,Zz]
def x14a1 : Array Bool := #[Yy,Zz,Zz,Zz,Zz,Zz,Zz,Zz,Zz,Zz,Zz,Zz,Zz,Zz,Zz,Zz,Zz,Zz,Zz,Zz]
def x14a2 : Array Bool := #[Yy,Yy,Zz,Zz,Zz,Zz,Zz,Zz,Zz,Zz,Zz,Zz,Zz,Zz,Zz,Zz,Zz,Zz,Zz,Zz]
def x14a3 : Array Bool := #[Yy,Yy,Yy,Zz,Zz,Zz,Zz,Zz,Zz,Zz,Zz,Zz,Zz,Zz,Zz,Zz,Zz,Zz,Zz,Zz]
def x14a4 : Array Bool := #[Yy,Yy,Yy,Yy,Zz,Zz,Zz,Zz,Zz,Zz,Zz,Zz,Zz,Zz,Zz,Zz,Zz,Zz,Zz,Zz]
def x14a5 : Array Bool := #[Yy,Yy,Yy,Yy,Yy,Zz,Zz,Zz,Zz,Zz,Zz,Zz,Zz,Zz,Zz,Zz,Zz,Zz,Zz,Zz]
def x14a6 : Array Bool := #[Yy,Yy,Yy,Yy,Yy,Yy,Zz,Zz,Zz,Zz,Zz,Zz,Zz,Zz,Zz,Zz,Zz,Zz,Zz,Zz]
def x14a7 : Array Bool := #[Yy,Yy,Yy,Yy,Yy,Yy,Yy,Zz,Zz,Zz,Zz,Zz,Zz,Zz,Zz,Zz,Zz,Zz,Zz,Zz]
def x14a8 : Array Bool := #[Yy,Yy,Yy,Yy,Yy,Yy,Yy,Yy,Zz,Zz,Zz,Zz,Zz,Zz,Zz,Zz,Zz,Zz,Zz,Zz]
def x14a9 : Array Bool := #[Yy,Yy,Yy,Yy,Yy,Yy,Yy,Yy,Yy,Zz,Zz,Zz,Zz,Zz,Zz,Zz,Zz,Zz,Zz,Zz]
def x14a10 : Array Bool := #[Yy,Yy,Yy,Yy,Yy,Yy,Yy,Yy,Yy,Yy,Zz,Zz,Zz,Zz,Zz,Zz,Zz,Zz,Zz,Zz]
def x14a11 : Array Bool := #[Yy,Yy,Yy,Yy,Yy,Yy,Yy,Yy,Yy,Yy,Yy,Zz,Zz,Zz,Zz,Zz,Zz,Zz,Zz,Zz]
def x14a12 : Array Bool := #[Yy,Yy,Yy,Yy,Yy,Yy,Yy,Yy,Yy,Yy,Yy,Yy,Zz,Zz,Zz,Zz,Zz,Zz,Zz,Zz]
def x14a13 : Array Bool := #[Yy,Yy,Yy,Yy,Yy,Yy,Yy,Yy,Yy,Yy,Yy,Yy,Yy,Zz,Zz,Zz,Zz,Zz,Zz,Zz]
def x14a14 : Array Bool := #[Yy,Yy,Yy,Yy,Yy,Yy,Yy,Yy,Yy,Yy,Yy,Yy,Yy,Yy,Zz,Zz,Zz,Zz,Zz,Zz]
def x14a15 : Array Bool := #[Yy,Yy,Yy,Yy,Yy,Yy,Yy,Yy,Yy,Yy,Yy,Yy,Yy,Yy,Yy,Zz,Zz,Zz,Zz,Zz]
def x14a16 : Array Bool := #[Yy,Yy,Yy,Yy,Yy,Yy,Yy,Yy,Yy,Yy,Yy,Yy,Yy,Yy,Yy,Yy,Zz,Zz,Zz,Zz]
def x14a17 : Array Bool := #[Yy,Yy,Yy,Yy,Yy,Yy,Yy,Yy,Yy,Yy,Yy,Yy,Yy,Yy,Yy,Yy,Yy,Zz,Zz,Zz]
def x14a18 : Array Bool := #[Yy,Yy,Yy,Yy,Yy,Yy,Yy,Yy,Yy,Yy,Yy,Yy,Yy,Yy,Yy,Yy,Yy,Yy,Zz,Zz]
def x14a19 : Array Bool := #[Yy,Yy,Yy,Yy,Yy,Yy,Yy,Yy,Yy,Yy,Yy,Yy,Yy,Yy,Yy,Yy,Yy,Yy,Yy,Zz]
def x14a20 : Array Bool := #[Yy,Yy,Yy,Yy,Yy,Yy,Yy,Yy,Yy,Yy,Yy,Yy,Yy,Yy,Yy,Yy,Yy,Yy,Yy,Yy]
def x14a21 : Array Bool := #[Yy,Yy,Yy,Yy,Yy,Yy,Yy,Yy,Yy,Yy,Yy,Zz,Zz,Zz,Yy,Zz,Zz,Zz,Zz,Zz]
def x14a22 : Array Bool := #[Yy,Yy,Yy,Yy,Yy,Yy,Yy,Yy,Yy,Yy,Yy,Zz,Zz,Zz,Yy,Yy,Zz,Zz,Zz,Zz]
def x14a23 : Array Bool := #[Yy,Yy,Yy,Yy,Yy,Yy,Yy,Yy,Yy,Yy,Yy,Yy,Zz,Zz,Yy,Yy,Zz,Zz,Zz,Zz]
def x14a24 : Array Bool := #[Yy,Yy,Yy,Yy,Yy,Yy,Yy,Yy,Yy,Yy,Yy,Yy,Yy,Zz,Yy,Yy,Zz,Zz,Zz,Zz]
def x14a25 : Array Bool := #[Zz,Zz,Zz,Zz,Zz,Zz,Zz,Zz,Zz,Zz,Zz,Zz,Zz]
def x14a26 : Array Bool := #[Zz,Yy,Zz,Zz,Zz,Zz,Zz,Zz,Zz,Zz,Zz,Zz,Zz]
def x14a27 : Array Bool := #[Zz,Yy,Yy,Zz,Zz,Zz,Zz,Zz,Zz,Zz,Zz,Zz,Zz]
def x14a28 : Array Bool := #[Zz,Yy,Yy,Zz,Yy,Zz,Zz,Zz,Zz,Zz,Zz,Zz,Zz]
def x14a29 : Array Bool := #[Yy,Yy,Yy,Zz,Yy,Zz,Zz,Zz,Zz,Zz,Zz,Zz,Zz]
def x14a30 : Array Bool := #[Yy,Yy,Yy,Yy,Yy,Zz,Zz,Zz,Zz,Zz,Zz,Zz,Zz]
def x14a31 : Array Bool := #[Yy,Yy,Yy,Yy,Yy,Yy,Zz,Zz,Zz,Zz,Zz,Zz,Zz]
def x14a32 : Array Bool := #[Yy,Yy,Yy,Yy,Yy,Yy,Yy,Zz,Zz,Zz,Zz,Zz,Zz]
def x14a33 : Array Bool := #[Yy,Yy,Yy,Yy,Yy,Yy,Yy,Yy,Zz,Zz,Zz,Zz,Zz]
def x14a34 : Array Bool := #[Yy,Yy,Yy,Yy,Yy,Yy,Yy,Yy,Yy,Zz,Zz,Zz,Zz]
def x14a35 : Array Bool := #[Yy,Yy,Yy,Yy,Yy,Yy,Yy,Yy,Yy,Yy,Zz,Zz,Zz]
def x14a36 : Array Bool := #[Yy,Yy,Yy,Yy,Yy,Yy,Yy,Yy,Yy,Yy,Yy,Zz,Zz]
def x14a37 : Array Bool := #[Yy,Yy,Yy,Yy,Yy,Yy,Yy,Yy,Yy,Yy,Yy,Yy,Zz]
def x14a38 : Array Bool := #[Yy,Yy,Yy,Yy,Yy,Yy,Yy,Yy,Yy,Yy,Yy,Yy,Yy]

theorem xUn {b : Bool} (h : some undef = some (Value.bool b)) : False := by cases h
/-! ### laws_FnFirstCycles: function 8 -/
mutual
def laws_FnFirstCycles.j0 : Nat → List Int → Int → List (List Int) → Bool → List Int → Bool → Int → Int → Int → Int → Bool → Option (Bool)
 | 0, _, _, _, _, _, _, _, _, _, _, _ => none
 | k + 1, x1, x6, x7, x8, x11, x127, x558000, x558001, x558002, x558003, x558004 => if x127 = true then (some false) else (if x8 = true then (if (x7.length : Int) = 0 then (some false) else (laws_FnFirstCycles.l0 k x1 x6 x7 x11 0 x7 (x7.length : Int) 0 x558000 x558001 x558002 x558003 x558004)) else (laws_FnFirstCycles.j5 k x1))
def laws_FnFirstCycles.j5 : Nat → List Int → Option (Bool)
 | 0, _ => none
 | k + 1, x1 => (spec_DrawFirstPeriod.f k x1).bind fun bt591 => ((impl_FirstPeriod.f k bt591.1 bt591.2.1 bt591.2.2.1 bt591.2.2.2.1 bt591.2.2.2.2.1 bt591.2.2.2.2.2.1 bt591.2.2.2.2.2.2).bind fun bt599 => ((spec_FirstPeriod.f k bt591.1 bt591.2.1 bt591.2.2.1 bt591.2.2.2.1 bt591.2.2.2.2.1 bt591.2.2.2.2.2.1 bt591.2.2.2.2.2.2).bind fun bt602 => (if (bt599.2.2 != bt602.2.2) = true then (laws_FnFirstCycles.j6 k x1 bt591.2.2.2.2.2.1 bt591.2.2.2.2.2.2 bt599.1 bt599.2.1 bt599.2.2 true bt591.1 bt591.2.1 bt591.2.2.1 bt591.2.2.2.1 bt591.2.2.2.2.1) else (if bt599.1 = bt602.1 then (laws_FnFirstCycles.j6 k x1 bt591.2.2.2.2.2.1 bt591.2.2.2.2.2.2 bt599.1 bt599.2.1 bt599.2.2 (bt599.2.1 != bt602.2.1) bt591.1 bt591.2.1 bt591.2.2.1 bt591.2.2.2.1 bt591.2.2.2.2.1) else (laws_FnFirstCycles.j6 k x1 bt591.2.2.2.2.2.1 bt591.2.2.2.2.2.2 bt599.1 bt599.2.1 bt599.2.2 true bt591.1 bt591.2.1 bt591.2.2.1 bt591.2.2.2.1 bt591.2.2.2.2.1)))))
def laws_FnFirstCycles.j6 : Nat → List Int → Int → Int → Int → Int → Bool → Bool → Int → Int → Int → Int → Bool → Option (Bool)
 | 0, _, _, _, _, _, _, _, _, _, _, _, _ => none
 | k + 1, x1, x26, x27, x28, x29, x30, x267, x599000, x599001, x599002, x599003, x599004 => if x267 = true then (some false) else (if x30 = true then (laws_FnFirstCycles.l2 k x1 x27 x28 x29 x26 0 x599000 x599001 x599002 x599003 x599004) else (laws_FnFirstCycles.j9 k x1))
def laws_FnFirstCycles.j9 : Nat → List Int → Option (Bool)
 | 0, _ => none
 | k + 1, x1 => (spec_DrawDeadBand.f x1).bind fun bt609 => ((impl_DeadBand.f k bt609.1 bt609.2.1 bt609.2.2.1 bt609.2.2.2.1 bt609.2.2.2.2).bind fun bt615 => ((spec_DeadBand.f k bt609.1 bt609.2.1 bt609.2.2.1 bt609.2.2.2.1 bt609.2.2.2.2).bind fun bt617 => ((impl_GainOfFirst.f k bt609.1 bt609.2.1 bt609.2.2.1 bt609.2.2.2.1 bt609.2.2.2.2).bind fun bt619 => ((spec_GainOfFirst.f k bt609.1 bt609.2.1 bt609.2.2.1 bt609.2.2.2.1 bt609.2.2.2.2).bind fun bt622 => ((spec_DrawNumbersBefore.f k x1).bind fun bt625 => ((impl_NumbersBefore.f k bt625.1 bt625.2.1 bt625.2.2.1 bt625.2.2.2.1 bt625.2.2.2.2.1 bt625.2.2.2.2.2.1 bt625.2.2.2.2.2.2).bind fun bt633 => ((spec_NumbersBefore.f k bt625.1 bt625.2.1 bt625.2.2.1 bt625.2.2.2.1 bt625.2.2.2.2.1 bt625.2.2.2.2.2.1 bt625.2.2.2.2.2.2).bind fun bt637 => (if (bt615.2 != bt617.2) = true then (laws_FnFirstCycles.j10 k bt615.1 bt615.2 bt625.2.2.2.2.2.1 bt625.2.2.2.2.2.2 bt633.1 true bt609.1 bt609.2.1 bt609.2.2.1 bt609.2.2.2.1 bt609.2.2.2.2 bt625.1 bt625.2.1 bt625.2.2.1 bt625.2.2.2.1 bt625.2.2.2.2.1) else (if bt615.1 = bt617.1 then (if (bt619.2.2 != bt622.2.2) = true then (laws_FnFirstCycles.j10 k bt615.1 bt615.2 bt625.2.2.2.2.2.1 bt625.2.2.2.2.2.2 bt633.1 true bt609.1 bt609.2.1 bt609.2.2.1 bt609.2.2.2.1 bt609.2.2.2.2 bt625.1 bt625.2.1 bt625.2.2.1 bt625.2.2.2.1 bt625.2.2.2.2.1) else (if bt619.1 = bt622.1 then (if bt619.2.1 = bt622.2.1 then (if (bt633.2 != bt637.2) = true then (laws_FnFirstCycles.j10 k bt615.1 bt615.2 bt625.2.2.2.2.2.1 bt625.2.2.2.2.2.2 bt633.1 true bt609.1 bt609.2.1 bt609.2.2.1 bt609.2.2.2.1 bt609.2.2.2.2 bt625.1 bt625.2.1 bt625.2.2.1 bt625.2.2.2.1 bt625.2.2.2.2.1) else ((laws_uSame.f k bt633.1 bt637.1).bind fun t641 => (if t641 = true then (if bt619.2.2 = true then (laws_FnFirstCycles.j10 k bt615.1 bt615.2 bt625.2.2.2.2.2.1 bt625.2.2.2.2.2.2 bt633.1 (decide (bt619.2.1 < 1)) bt609.1 bt609.2.1 bt609.2.2.1 bt609.2.2.2.1 bt609.2.2.2.2 bt625.1 bt625.2.1 bt625.2.2.1 bt625.2.2.2.1 bt625.2.2.2.2.1) else (laws_FnFirstCycles.j10 k bt615.1 bt615.2 bt625.2.2.2.2.2.1 bt625.2.2.2.2.2.2 bt633.1 false bt609.1 bt609.2.1 bt609.2.2.1 bt609.2.2.2.1 bt609.2.2.2.2 bt625.1 bt625.2.1 bt625.2.2.1 bt625.2.2.2.1 bt625.2.2.2.2.1)) else (laws_FnFirstCycles.j10 k bt615.1 bt615.2 bt625.2.2.2.2.2.1 bt625.2.2.2.2.2.2 bt633.1 true bt609.1 bt609.2.1 bt609.2.2.1 bt609.2.2.2.1 bt609.2.2.2.2 bt625.1 bt625.2.1 bt625.2.2.1 bt625.2.2.2.1 bt625.2.2.2.2.1)))) else (laws_FnFirstCycles.j10 k bt615.1 bt615.2 bt625.2.2.2.2.2.1 bt625.2.2.2.2.2.2 bt633.1 true bt609.1 bt609.2.1 bt609.2.2.1 bt609.2.2.2.1 bt609.2.2.2.2 bt625.1 bt625.2.1 bt625.2.2.1 bt625.2.2.2.1 bt625.2.2.2.2.1)) else (laws_FnFirstCycles.j10 k bt615.1 bt615.2 bt625.2.2.2.2.2.1 bt625.2.2.2.2.2.2 bt633.1 true bt609.1 bt609.2.1 bt609.2.2.1 bt609.2.2.2.1 bt609.2.2.2.2 bt625.1 bt625.2.1 bt625.2.2.1 bt625.2.2.2.1 bt625.2.2.2.2.1))) else (laws_FnFirstCycles.j10 k bt615.1 bt615.2 bt625.2.2.2.2.2.1 bt625.2.2.2.2.2.2 bt633.1 true bt609.1 bt609.2.1 bt609.2.2.1 bt609.2.2.2.1 bt609.2.2.2.2 bt625.1 bt625.2.1 bt625.2.2.1 bt625.2.2.2.1 bt625.2.2.2.2.1))))))))))
def laws_FnFirstCycles.j10 : Nat → Int → Bool → Int → Int → List Int → Bool → Int → Int → Int → Int → Bool → Int → Int → Int → Int → Bool → Option (Bool)
 | 0, _, _, _, _, _, _, _, _, _, _, _, _, _, _, _, _ => none
 | k + 1, x43, x44, x54, x55, x56, x403, x615000, x615001, x615002, x615003, x615004, x633000, x633001, x633002, x633003, x633004 => if x403 = true then (some false) else (laws_FnFirstCycles.l4 k x43 x44 x54 x55 x56 x56 (x56.length : Int) 0 x615000 x615001 x615002 x615003 x615004 x633000 x633001 x633002 x633003 x633004)
def laws_FnFirstCycles.l4 : Nat → Int → Bool → Int → Int → List Int → List Int → Int → Int → Int → Int → Int → Int → Bool → Int → Int → Int → Int → Bool → Option (Bool)
 | 0, _, _, _, _, _, _, _, _, _, _, _, _, _, _, _, _, _, _ => none
 | k + 1, x43, x44, x54, x55, x56, x404, x405, x406, x615000, x615001, x615002, x615003, x615004, x633000, x633001, x633002, x633003, x633004 => if x406 < x405 then (if 0 ≤ x406 then (if x406 < (x404.length : Int) then ((impl_FirstStep.f k x633000 x633001 x633002 x633003 x633004 (rd x404 x406) x55).bind fun bt643 => (if bt643.2 = true then (if bt643.1 = x54 then (if x406 > 0 then (if 0 ≤ (wrap64 (x406 - 1)) then (if (wrap64 (x406 - 1)) < (x56.length : Int) then (if (rd x56 (wrap64 (x406 - 1))) ≥ (rd x404 x406) then (some false) else (laws_FnFirstCycles.l4 k x43 x44 x54 x55 x56 x404 x405 (wrap64 (x406 + 1)) x615000 x615001 x615002 x615003 x615004 x633000 x633001 x633002 x633003 x633004)) else (none)) else (none)) else (laws_FnFirstCycles.l4 k x43 x44 x54 x55 x56 x404 x405 (wrap64 (x406 + 1)) x615000 x615001 x615002 x615003 x615004 x633000 x633001 x633002 x633003 x633004)) else (some false)) else (some false))) else (none)) else (none)) else (if x44 = true then ((impl_CyclesOfFirst.f k x615000 x615001 x615002 x615003 x615004 0).bind fun bt646 => (laws_FnFirstCycles.l5 k x43 bt646.2 0 bt646.1 (bt646.1.length : Int) 0)) else (some true))
def laws_FnFirstCycles.l5 : Nat → Int → Bool → Int → List (List Int) → Int → Int → Option (Bool)
 | 0, _, _, _, _, _, _ => none
 | k + 1, x43, x65, x66, x445, x446, x447 => if x447 < x446 then (if 0 ≤ x447 then (if x447 < (x445.length : Int) then (laws_FnFirstCycles.l6 k x43 x65 x66 x445 x446 x447 (rd_L5 x445 x447) ((rd_L5 x445 x447).length : Int) 0) else (none)) else (none)) else (if x65 = true then (some (x66 == x43)) else (some false))
def laws_FnFirstCycles.l6 : Nat → Int → Bool → Int → List (List Int) → Int → Int → List Int → Int → Int → Option (Bool)
 | 0, _, _, _, _, _, _, _, _, _ => none
 | k + 1, x43, x65, x66, x445, x446, x447, x451, x452, x453 => if x453 < x452 then (if 0 ≤ x453 then (if x453 < (x451.length : Int) then ((laws_uAbs.f (rd x451 x453)).bind fun t652 => (if t652 > x66 then ((laws_uAbs.f (rd x451 x453)).bind fun t653 => (laws_FnFirstCycles.l6 k x43 x65 t653 x445 x446 x447 x451 x452 (wrap64 (x453 + 1)))) else (laws_FnFirstCycles.l6 k x43 x65 x66 x445 x446 x447 x451 x452 (wrap64 (x453 + 1))))) else (none)) else (none)) else (laws_FnFirstCycles.l5 k x43 x65 x66 x445 x446 (wrap64 (x447 + 1)))
def laws_FnFirstCycles.l2 : Nat → List Int → Int → Int → Int → Int → Int → Int → Int → Int → Int → Bool → Option (Bool)
 | 0, _, _, _, _, _, _, _, _, _, _, _ => none
 | k + 1, x1, x27, x28, x29, x34, x35, x599000, x599001, x599002, x599003, x599004 => if x35 < x28 then ((impl_FirstStep.f k x599000 x599001 x599002 x599003 x599004 x34 x27).bind fun bt605 => (if bt605.2 = true then (laws_FnFirstCycles.l2 k x1 x27 x28 x29 bt605.1 (wrap64 (x35 + 1)) x599000 x599001 x599002 x599003 x599004) else (some false))) else (laws_FnFirstCycles.l3 k x1 x27 x29 x34 x34 0 x599000 x599001 x599002 x599003 x599004)
def laws_FnFirstCycles.l3 : Nat → List Int → Int → Int → Int → Int → Int → Int → Int → Int → Int → Bool → Option (Bool)
 | 0, _, _, _, _, _, _, _, _, _, _, _ => none
 | k + 1, x1, x27, x29, x34, x38, x39, x599000, x599001, x599002, x599003, x599004 => if x39 < x29 then ((impl_FirstStep.f k x599000 x599001 x599002 x599003 x599004 x34 x27).bind fun bt607 => (if bt607.2 = true then (if bt607.1 = x38 then (if x39 < (wrap64 (x29 - 1)) then (some false) else (laws_FnFirstCycles.l3 k x1 x27 x29 bt607.1 x38 (wrap64 (x39 + 1)) x599000 x599001 x599002 x599003 x599004)) else (laws_FnFirstCycles.l3 k x1 x27 x29 bt607.1 x38 (wrap64 (x39 + 1)) x599000 x599001 x599002 x599003 x599004)) else (some false))) else (if x34 = x38 then (if x29 < 1 then (some false) else (laws_FnFirstCycles.j9 k x1)) else (some false))
def laws_FnFirstCycles.l0 : Nat → List Int → Int → List (List Int) → List Int → Int → List (List Int) → Int → Int → Int → Int → Int → Int → Bool → Option (Bool)
 | 0, _, _, _, _, _, _, _, _, _, _, _, _, _ => none
 | k + 1, x1, x6, x7, x11, x15, x132, x133, x134, x558000, x558001, x558002, x558003, x558004 => if x134 < x133 then (if 0 ≤ x134 then (if x134 < (x132.length : Int) then (if ((rd_L5 x132 x134).length : Int) = 0 then (laws_FnFirstCycles.j2 k x1 x6 x7 x11 x15 (rd_L5 x132 x134) x132 x133 x134 true x558000 x558001 x558002 x558003 x558004) else (if x134 > 0 then (if 0 ≤ (wrap64 (x134 - 1)) then (if (wrap64 (x134 - 1)) < (x7.length : Int) then (if 0 < ((rd_L5 x7 (wrap64 (x134 - 1))).length : Int) then (if 0 < ((rd_L5 x132 x134).length : Int) then (laws_FnFirstCycles.j2 k x1 x6 x7 x11 x15 (rd_L5 x132 x134) x132 x133 x134 (decide ((rd (rd_L5 x7 (wrap64 (x134 - 1))) 0) ≥ (rd (rd_L5 x132 x134) 0))) x558000 x558001 x558002 x558003 x558004) else (none)) else (none)) else (none)) else (none)) else (laws_FnFirstCycles.j2 k x1 x6 x7 x11 x15 (rd_L5 x132 x134) x132 x133 x134 false x558000 x558001 x558002 x558003 x558004))) else (none)) else (none)) else (if x15 = (x11.length : Int) then (laws_FnFirstCycles.j5 k x1) else (some false))
def laws_FnFirstCycles.j2 : Nat → List Int → Int → List (List Int) → List Int → Int → List Int → List (List Int) → Int → Int → Bool → Int → Int → Int → Int → Bool → Option (Bool)
 | 0, _, _, _, _, _, _, _, _, _, _, _, _, _, _, _ => none
 | k + 1, x1, x6, x7, x11, x15, x17, x132, x133, x134, x158, x558000, x558001, x558002, x558003, x558004 => if x158 = true then (some false) else (laws_FnFirstCycles.l1 k x1 x6 x7 x11 x15 x17 x132 x133 x134 x17 (x17.length : Int) 0 x558000 x558001 x558002 x558003 x558004)
def laws_FnFirstCycles.l1 : Nat → List Int → Int → List (List Int) → List Int → Int → List Int → List (List Int) → Int → Int → List Int → Int → Int → Int → Int → Int → Int → Bool → Option (Bool)
 | 0, _, _, _, _, _, _, _, _, _, _, _, _, _, _, _, _, _ => none
 | k + 1, x1, x6, x7, x11, x15, x17, x132, x133, x134, x159, x160, x161, x558000, x558001, x558002, x558003, x558004 => if x161 < x160 then (if 0 ≤ x161 then (if x161 < (x159.length : Int) then ((impl_FirstStep.f k x558000 x558001 x558002 x558003 x558004 (rd x159 x161) x6).bind fun bt581 => (if bt581.2 = true then (if (x17.length : Int) = 0 then (none) else (if 0 ≤ (Int.tmod (wrap64 (x161 + 1)) (x17.length : Int)) then (if (Int.tmod (wrap64 (x161 + 1)) (x17.length : Int)) < (x17.length : Int) then (if bt581.1 = (rd x17 (Int.tmod (wrap64 (x161 + 1)) (x17.length : Int))) then (if 0 < (x17.length : Int) then (if (rd x159 x161) < (rd x17 0) then (some false) else (laws_FnFirstCycles.l1 k x1 x6 x7 x11 x15 x17 x132 x133 x134 x159 x160 (wrap64 (x161 + 1)) x558000 x558001 x558002 x558003 x558004)) else (none)) else (some false)) else (none)) else (none))) else (some false))) else (none)) else (none)) else (if 0 < (x17.length : Int) then ((impl_FirstPeriod.f k x558000 x558001 x558002 x558003 x558004 (rd x17 0) x6).bind fun bt586 => (if bt586.2.2 = true then (if bt586.1 = 0 then (laws_FnFirstCycles.j4 k x1 x6 x7 x11 x15 x17 x132 x133 x134 (bt586.2.1 != (x17.length : Int)) x558000 x558001 x558002 x558003 x558004) else (laws_FnFirstCycles.j4 k x1 x6 x7 x11 x15 x17 x132 x133 x134 true x558000 x558001 x558002 x558003 x558004)) else (laws_FnFirstCycles.j4 k x1 x6 x7 x11 x15 x17 x132 x133 x134 true x558000 x558001 x558002 x558003 x558004))) else (none))
def laws_FnFirstCycles.j4 : Nat → List Int → Int → List (List Int) → List Int → Int → List Int → List (List Int) → Int → Int → Bool → Int → Int → Int → Int → Bool → Option (Bool)
 | 0, _, _, _, _, _, _, _, _, _, _, _, _, _, _, _ => none
 | k + 1, x1, x6, x7, x11, x15, x17, x132, x133, x134, x216, x558000, x558001, x558002, x558003, x558004 => if x216 = true then (some false) else (if (x17.length : Int) = 1 then (if 0 < (x17.length : Int) then ((laws_uHas.f k x11 (rd x17 0)).bind fun t590 => (if t590 = true then (laws_FnFirstCycles.l0 k x1 x6 x7 x11 (wrap64 (x15 + 1)) x132 x133 (wrap64 (x134 + 1)) x558000 x558001 x558002 x558003 x558004) else (some false))) else (none)) else (laws_FnFirstCycles.l0 k x1 x6 x7 x11 x15 x132 x133 (wrap64 (x134 + 1)) x558000 x558001 x558002 x558003 x558004))
end
def laws_FnFirstCycles.f (k : Nat) (l0 : List Int) (l1 : List Int) : Option (Bool) := (laws_big.f l0 l1).bind fun t550 => (if t550 = true then (some true) else ((spec_DrawCyclesOfFirst.f l0).bind fun bt551 => ((impl_CyclesOfFirst.f k bt551.1 bt551.2.1 bt551.2.2.1 bt551.2.2.2.1 bt551.2.2.2.2.1 bt551.2.2.2.2.2).bind fun bt558 => ((spec_CyclesOfFirst.f k bt551.1 bt551.2.1 bt551.2.2.1 bt551.2.2.2.1 bt551.2.2.2.2.1 bt551.2.2.2.2.2).bind fun bt562 => ((impl_RestsOf.f k bt551.1 bt551.2.1 bt551.2.2.1 bt551.2.2.2.1 bt551.2.2.2.2.1 bt551.2.2.2.2.2).bind fun bt566 => ((spec_RestsOf.f k bt551.1 bt551.2.1 bt551.2.2.1 bt551.2.2.2.1 bt551.2.2.2.2.1 bt551.2.2.2.2.2).bind fun bt570 => (if (bt558.2 != bt562.2) = true then (laws_FnFirstCycles.j0 k l1 bt551.2.2.2.2.2 bt558.1 bt558.2 bt566.1 true bt551.1 bt551.2.1 bt551.2.2.1 bt551.2.2.2.1 bt551.2.2.2.2.1) else ((laws_uRows.f k bt558.1 bt562.1).bind fun t574 => (if t574 = true then (if (bt566.2 != bt570.2) = true then (laws_FnFirstCycles.j0 k l1 bt551.2.2.2.2.2 bt558.1 bt558.2 bt566.1 true bt551.1 bt551.2.1 bt551.2.2.1 bt551.2.2.2.1 bt551.2.2.2.2.1) else ((laws_uSame.f k bt566.1 bt570.1).bind fun t575 => (if t575 = true then (laws_FnFirstCycles.j0 k l1 bt551.2.2.2.2.2 bt558.1 bt558.2 bt566.1 (bt566.2 != bt558.2) bt551.1 bt551.2.1 bt551.2.2.1 bt551.2.2.2.1 bt551.2.2.2.2.1) else (laws_FnFirstCycles.j0 k l1 bt551.2.2.2.2.2 bt558.1 bt558.2 bt566.1 true bt551.1 bt551.2.1 bt551.2.2.1 bt551.2.2.2.1 bt551.2.2.2.2.1)))) else (laws_FnFirstCycles.j0 k l1 bt551.2.2.2.2.2 bt558.1 bt558.2 bt566.1 true bt551.1 bt551.2.1 bt551.2.2.1 bt551.2.2.2.1 bt551.2.2.2.2.1))))))))))
theorem laws_FnFirstCycles.mono_l : ∀ k, (∀ y0 y1 y2 y3 y4 y5 y6 y7 y8 y9 y10, LeO (laws_FnFirstCycles.j0 k y0 y1 y2 y3 y4 y5 y6 y7 y8 y9 y10) (laws_FnFirstCycles.j0 (k + 1) y0 y1 y2 y3 y4 y5 y6 y7 y8 y9 y10)) ∧ (∀ y0, LeO (laws_FnFirstCycles.j5 k y0) (laws_FnFirstCycles.j5 (k + 1) y0)) ∧ (∀ y0 y1 y2 y3 y4 y5 y6 y7 y8 y9 y10 y11, LeO (laws_FnFirstCycles.j6 k y0 y1 y2 y3 y4 y5 y6 y7 y8 y9 y10 y11) (laws_FnFirstCycles.j6 (k + 1) y0 y1 y2 y3 y4 y5 y6 y7 y8 y9 y10 y11)) ∧ (∀ y0, LeO (laws_FnFirstCycles.j9 k y0) (laws_FnFirstCycles.j9 (k + 1) y0)) ∧ (∀ y0 y1 y2 y3 y4 y5 y6 y7 y8 y9 y10 y11 y12 y13 y14 y15, LeO (laws_FnFirstCycles.j10 k y0 y1 y2 y3 y4 y5 y6 y7 y8 y9 y10 y11 y12 y13 y14 y15) (laws_FnFirstCycles.j10 (k + 1) y0 y1 y2 y3 y4 y5 y6 y7 y8 y9 y10 y11 y12 y13 y14 y15)) ∧ (∀ y0 y1 y2 y3 y4 y5 y6 y7 y8 y9 y10 y11 y12 y13 y14 y15 y16 y17, LeO (laws_FnFirstCycles.l4 k y0 y1 y2 y3 y4 y5 y6 y7 y8 y9 y10 y11 y12 y13 y14 y15 y16 y17) (laws_FnFirstCycles.l4 (k + 1) y0 y1 y2 y3 y4 y5 y6 y7 y8 y9 y10 y11 y12 y13 y14 y15 y16 y17)) ∧ (∀ y0 y1 y2 y3 y4 y5, LeO (laws_FnFirstCycles.l5 k y0 y1 y2 y3 y4 y5) (laws_FnFirstCycles.l5 (k + 1) y0 y1 y2 y3 y4 y5)) ∧ (∀ y0 y1 y2 y3 y4 y5 y6 y7 y8, LeO (laws_FnFirstCycles.l6 k y0 y1 y2 y3 y4 y5 y6 y7 y8) (laws_FnFirstCycles.l6 (k + 1) y0 y1 y2 y3 y4 y5 y6 y7 y8)) ∧ (∀ y0 y1 y2 y3 y4 y5 y6 y7 y8 y9 y10, LeO (laws_FnFirstCycles.l2 k y0 y1 y2 y3 y4 y5 y6 y7 y8 y9 y10) (laws_FnFirstCycles.l2 (k + 1) y0 y1 y2 y3 y4 y5 y6 y7 y8 y9 y10)) ∧ (∀ y0 y1 y2 y3 y4 y5 y6 y7 y8 y9 y10, LeO (laws_FnFirstCycles.l3 k y0 y1 y2 y3 y4 y5 y6 y7 y8 y9 y10) (laws_FnFirstCycles.l3 (k + 1) y0 y1 y2 y3 y4 y5 y6 y7 y8 y9 y10)) ∧ (∀ y0 y1 y2 y3 y4 y5 y6 y7 y8 y9 y10 y11 y12, LeO (laws_FnFirstCycles.l0 k y0 y1 y2 y3 y4 y5 y6 y7 y8 y9 y10 y11 y12) (laws_FnFirstCycles.l0 (k + 1) y0 y1 y2 y3 y4 y5 y6 y7 y8 y9 y10 y11 y12)) ∧ (∀ y0 y1 y2 y3 y4 y5 y6 y7 y8 y9 y10 y11 y12 y13 y14, LeO (laws_FnFirstCycles.j2 k y0 y1 y2 y3 y4 y5 y6 y7 y8 y9 y10 y11 y12 y13 y14) (laws_FnFirstCycles.j2 (k + 1) y0 y1 y2 y3 y4 y5 y6 y7 y8 y9 y10 y11 y12 y13 y14)) ∧ (∀ y0 y1 y2 y3 y4 y5 y6 y7 y8 y9 y10 y11 y12 y13 y14 y15 y16, LeO (laws_FnFirstCycles.l1 k y0 y1 y2 y3 y4 y5 y6 y7 y8 y9 y10 y11 y12 y13 y14 y15 y16) (laws_FnFirstCycles.l1 (k + 1) y0 y1 y2 y3 y4 y5 y6 y7 y8 y9 y10 y11 y12 y13 y14 y15 y16)) ∧ (∀ y0 y1 y2 y3 y4 y5 y6 y7 y8 y9 y10 y11 y12 y13 y14, LeO (laws_FnFirstCycles.j4 k y0 y1 y2 y3 y4 y5 y6 y7 y8 y9 y10 y11 y12 y13 y14) (laws_FnFirstCycles.j4 (k + 1) y0 y1 y2 y3 y4 y5 y6 y7 y8 y9 y10 y11 y12 y13 y14))
 | 0 => ⟨fun _ _ _ _ _ _ _ _ _ _ _ r h => by simp [laws_FnFirstCycles.j0] at h, fun _ r h => by simp [laws_FnFirstCycles.j5] at h, fun _ _ _ _ _ _ _ _ _ _ _ _ r h => by simp [laws_FnFirstCycles.j6] at h, fun _ r h => by simp [laws_FnFirstCycles.j9] at h, fun _ _ _ _ _ _ _ _ _ _ _ _ _ _ _ _ r h => by simp [laws_FnFirstCycles.j10] at h, fun _ _ _ _ _ _ _ _ _ _ _ _ _ _ _ _ _ _ r h => by simp [laws_FnFirstCycles.l4] at h, fun _ _ _ _ _ _ r h => by simp [laws_FnFirstCycles.l5] at h, fun _ _ _ _ _ _ _ _ _ r h => by simp [laws_FnFirstCycles.l6] at h, fun _ _ _ _ _ _ _ _ _ _ _ r h => by simp [laws_FnFirstCycles.l2] at h, fun _ _ _ _ _ _ _ _ _ _ _ r h => by simp [laws_FnFirstCycles.l3] at h, fun _ _ _ _ _ _ _ _ _ _ _ _ _ r h => by simp [laws_FnFirstCycles.l0] at h, fun _ _ _ _ _ _ _ _ _ _ _ _ _ _ _ r h => by simp [laws_FnFirstCycles.j2] at h, fun _ _ _ _ _ _ _ _ _ _ _ _ _ _ _ _ _ r h => by simp [laws_FnFirstCycles.l1] at h, fun _ _ _ _ _ _ _ _ _ _ _ _ _ _ _ r h => by simp [laws_FnFirstCycles.j4] at h⟩
 | k + 1 => by
  obtain ⟨ih0, ih1, ih2, ih3, ih4, ih5, ih6, ih7, ih8, ih9, ih10, ih11, ih12, ih13⟩ := laws_FnFirstCycles.mono_l k
  have m0 := @impl_CyclesOfFirst.mono
  have m1 := @impl_DeadBand.mono
  have m2 := @impl_FirstPeriod.mono
  have m3 := @impl_FirstStep.mono
  have m4 := @impl_GainOfFirst.mono
  have m5 := @impl_NumbersBefore.mono
  have m6 := @impl_RestsOf.mono
  have m7 := @laws_uHas.mono
  have m8 := @laws_uRows.mono
  have m9 := @laws_uSame.mono
  have m10 := @spec_CyclesOfFirst.mono
  have m11 := @spec_DeadBand.mono
  have m12 := @spec_DrawFirstPeriod.mono
  have m13 := @spec_DrawNumbersBefore.mono
  have m14 := @spec_FirstPeriod.mono
  have m15 := @spec_GainOfFirst.mono
  have m16 := @spec_NumbersBefore.mono
  have m17 := @spec_RestsOf.mono
  refine ⟨?_, ?_, ?_, ?_, ?_, ?_, ?_, ?_, ?_, ?_, ?_, ?_, ?_, ?_⟩ <;> intros
  ·unfold laws_FnFirstCycles.j0; exact xM
  ·unfold laws_FnFirstCycles.j5; exact xM
  ·unfold laws_FnFirstCycles.j6; exact xM
  ·unfold laws_FnFirstCycles.j9; exact xM
  ·unfold laws_FnFirstCycles.j10; exact xM
  ·unfold laws_FnFirstCycles.l4; exact xM
  ·unfold laws_FnFirstCycles.l5; exact xM
  ·unfold laws_FnFirstCycles.l6; exact xM
  ·unfold laws_FnFirstCycles.l2; exact xM
  ·unfold laws_FnFirstCycles.l3; exact xM
  ·unfold laws_FnFirstCycles.l0; exact xM
  ·unfold laws_FnFirstCycles.j2; exact xM
  ·unfold laws_FnFirstCycles.l1; exact xM
  ·unfold laws_FnFirstCycles.j4; exact xM
theorem laws_FnFirstCycles.mono : ∀ a0 a1 k, LeO (laws_FnFirstCycles.f k a0 a1) (laws_FnFirstCycles.f (k + 1) a0 a1) := by
 intro a0 a1 k
 obtain ⟨ih0, ih1, ih2, ih3, ih4, ih5, ih6, ih7, ih8, ih9, ih10, ih11, ih12, ih13⟩ := laws_FnFirstCycles.mono_l k
 have m0 := @impl_CyclesOfFirst.mono
 have m1 := @impl_DeadBand.mono
 have m2 := @impl_FirstPeriod.mono
 have m3 := @impl_FirstStep.mono
 have m4 := @impl_GainOfFirst.mono
 have m5 := @impl_NumbersBefore.mono
 have m6 := @impl_RestsOf.mono
 have m7 := @laws_uHas.mono
 have m8 := @laws_uRows.mono
 have m9 := @laws_uSame.mono
 have m10 := @spec_CyclesOfFirst.mono
 have m11 := @spec_DeadBand.mono
 have m12 := @spec_DrawFirstPeriod.mono
 have m13 := @spec_DrawNumbersBefore.mono
 have m14 := @spec_FirstPeriod.mono
 have m15 := @spec_GainOfFirst.mono
 have m16 := @spec_NumbersBefore.mono
 have m17 := @spec_RestsOf.mono
 unfold laws_FnFirstCycles.f
 exact xM
def laws_FnFirstCycles.T17 : Bool × List (List Nat × List Nat) := (true, [([], []), ([0], [0]), ([1], [1]), ([2], [2]), ([3], [3]), ([4, 3], [3, 4]), ([5, 3, 3], [3, 5]), ([6], [6]), ([6], [6]), ([8, 6], [6, 8]), ([7, 9, 6], [6, 7, 9]), ([10, 6], [6, 10]), ([11, 6], [6, 11]), ([12, 6], [6, 12]), ([6], [6]), ([14, 6], [6, 14]), ([15, 6], [6, 15]), ([13, 16, 6], [6, 13, 16]), ([6, 17, 3], [3, 6, 17]), ([3, 18], [3, 18])])
def laws_FnFirstCycles.B17 : List Nat := [0, 1, 3, 7, 15, 31, 63, 127, 127, 383, 1023, 2047, 4095, 8191, 127, 16511, 49279, 131071, 262143, 524287]
theorem laws_FnFirstCycles.tab17 : rtab .any (opsOf Try.f8 17) = laws_FnFirstCycles.T17 := by kernel_rfl
theorem laws_FnFirstCycles.bits17 : waitsOk laws_FnFirstCycles.T17.2 laws_FnFirstCycles.B17 = true := by kernel_rfl
def laws_FnFirstCycles.T26 : Bool × List (List Nat × List Nat) := (true, [([], []), ([], []), ([1], [1]), ([2], [2]), ([], []), ([0, 3, 4], [0, 3, 4]), ([5], [5]), ([6], [6]), ([6], [6]), ([6], [6]), ([7, 5, 0, 1, 2, 3, 4, 5, 6, 7], [7]), ([8, 10, 0, 1, 2, 3, 4, 5, 6, 7, 8, 10], [8]), ([9, 11, 0, 1, 2, 3, 4, 5, 6, 7, 8, 9, 10, 11], [9])])
def laws_FnFirstCycles.B26 : List Nat := [0, 0, 2, 6, 0, 31, 63, 127, 127, 127, 255, 1535, 4095]
theorem laws_FnFirstCycles.tab26 : rtab .any (opsOf Try.f8 26) = laws_FnFirstCycles.T26 := by kernel_rfl
theorem laws_FnFirstCycles.bits26 : waitsOk laws_FnFirstCycles.T26.2 laws_FnFirstCycles.B26 = true := by kernel_rfl

end Go.Proofs.Ytjplcongellcmaa.PFnFirstCycles
