/-
  No cell of these rows narrows 'for every input' (looked for: loops, veiled, ifaces, maps, wideKeys, modest, calm, conditions, laid).
  DERIVED. THE GIVEN ROWS OF THIS SEAT. 9 by the template 'for every input the law returns true; each argument reads behind the call as it read before'; 0 by the template 'total and deterministic' (their statements: YthbpdbkokplgcaaTotals.lean).
  GIVEN WITH THE SEED: the statements are not yours to turn. If you find one false, say at which input.
  Laid BY PROGRAM, IN A SANDBOX (cutbox-rows.mjs): the forced cells as the released guide's own fill.sh prints them over the translation f7cfe071c1ac9392… (all of the seat's roots in one cut). By AI agents, Wed Nov 11 2026. No macro, syntax, notation, axiom, sorry.
-/
import Derived.Test.YthbpdbkokplgcaaChecked
import GoSem.Claim
import GoSem.ClaimJoined
import GoSem.ClaimMapViews
import Derived.JoinedTies
import Derived.KernelRfl
namespace Go.Proofs.Ythbpdbkokplgcaa
/- THE CELL 'sum', in the pinned program and in every row, IS THE sha256 OF THE DUMP (.gsa) THAT YthbpdbkokplgcaaProg.lean LOADS. Nothing in Lean hashes anything: it is a label: what it is worth is what the hold of that sum in a sandbox is worth. -/
noncomputable def Try.pinned : Pinned := { name := "ythbpdbkokplgcaa", sum := "f7cfe071c1ac9392082915a3ea9fa4dcbad7bf08850eeaa36f12e1752079f897", checked := Try.checked }
namespace Rows
def none {H : Type} : Left H := { results := [], args := [] }

/-- 'laws.FnExactFirstDesk': WHATEVER THE INPUT: true; the input reads as it did. -/
def fnExactFirstDeskSpec : ChangeSpec := { name := "fnExactFirstDesk", fn := fun _ => fun
  | [] => { results := [.lit (.bool true)], args := [] }
  | _ => none }
def fnExactFirstDeskRow : OpenClaim := { program := "ythbpdbkokplgcaa", sum := "f7cfe071c1ac9392082915a3ea9fa4dcbad7bf08850eeaa36f12e1752079f897", func := "loop.example/g01198/laws.FnExactFirstDesk", spec := "fnExactFirstDesk", apart := false }
def FnExactFirstDeskSaid : Prop := fnExactFirstDeskRow.holds Try.pinned (OpenSpec.ofChange fnExactFirstDeskSpec)

/-- ITS FALSE NEIGHBOUR: 'it returns false'. Refute it at one input. -/
def fnExactFirstDeskWrong : ChangeSpec := { name := "fnExactFirstDesk", fn := fun _ => fun
  | [] => { results := [.lit (.bool false)], args := [] }
  | _ => none }
def FnExactFirstDeskWrongFalsely : Prop := fnExactFirstDeskRow.holds Try.pinned (OpenSpec.ofChange fnExactFirstDeskWrong)

/-- 'laws.FnExactToneStates': WHATEVER THE INPUT: true; the input reads as it did. -/
def fnExactToneStatesSpec : ChangeSpec := { name := "fnExactToneStates", fn := fun _ => fun
  | [d1, d2] => { results := [.lit (.bool true)], args := [d1, d2] }
  | _ => none }
def fnExactToneStatesRow : OpenClaim := { program := "ythbpdbkokplgcaa", sum := "f7cfe071c1ac9392082915a3ea9fa4dcbad7bf08850eeaa36f12e1752079f897", func := "loop.example/g01198/laws.FnExactToneStates", spec := "fnExactToneStates", unfollowed := true, recurses := true, apart := false }
def FnExactToneStatesSaid : Prop := fnExactToneStatesRow.holds Try.pinned (OpenSpec.ofChange fnExactToneStatesSpec)

/-- ITS FALSE NEIGHBOUR: 'it returns false'. Refute it at one input. -/
def fnExactToneStatesWrong : ChangeSpec := { name := "fnExactToneStates", fn := fun _ => fun
  | [d1, d2] => { results := [.lit (.bool false)], args := [d1, d2] }
  | _ => none }
def FnExactToneStatesWrongFalsely : Prop := fnExactToneStatesRow.holds Try.pinned (OpenSpec.ofChange fnExactToneStatesWrong)

/-- 'laws.FnExactTonePower': WHATEVER THE INPUT: true; the input reads as it did. -/
def fnExactTonePowerSpec : ChangeSpec := { name := "fnExactTonePower", fn := fun _ => fun
  | [d1, d2] => { results := [.lit (.bool true)], args := [d1, d2] }
  | _ => none }
def fnExactTonePowerRow : OpenClaim := { program := "ythbpdbkokplgcaa", sum := "f7cfe071c1ac9392082915a3ea9fa4dcbad7bf08850eeaa36f12e1752079f897", func := "loop.example/g01198/laws.FnExactTonePower", spec := "fnExactTonePower", unfollowed := true, recurses := true, apart := false }
def FnExactTonePowerSaid : Prop := fnExactTonePowerRow.holds Try.pinned (OpenSpec.ofChange fnExactTonePowerSpec)

/-- ITS FALSE NEIGHBOUR: 'it returns false'. Refute it at one input. -/
def fnExactTonePowerWrong : ChangeSpec := { name := "fnExactTonePower", fn := fun _ => fun
  | [d1, d2] => { results := [.lit (.bool false)], args := [d1, d2] }
  | _ => none }
def FnExactTonePowerWrongFalsely : Prop := fnExactTonePowerRow.holds Try.pinned (OpenSpec.ofChange fnExactTonePowerWrong)

/-- 'laws.FnExactIsDesk': WHATEVER THE INPUT: true; the input reads as it did. -/
def fnExactIsDeskSpec : ChangeSpec := { name := "fnExactIsDesk", fn := fun _ => fun
  | [d] => { results := [.lit (.bool true)], args := [d] }
  | _ => none }
def fnExactIsDeskRow : OpenClaim := { program := "ythbpdbkokplgcaa", sum := "f7cfe071c1ac9392082915a3ea9fa4dcbad7bf08850eeaa36f12e1752079f897", func := "loop.example/g01198/laws.FnExactIsDesk", spec := "fnExactIsDesk", unfollowed := true, recurses := true, apart := false }
def FnExactIsDeskSaid : Prop := fnExactIsDeskRow.holds Try.pinned (OpenSpec.ofChange fnExactIsDeskSpec)

/-- ITS FALSE NEIGHBOUR: 'it returns false'. Refute it at one input. -/
def fnExactIsDeskWrong : ChangeSpec := { name := "fnExactIsDesk", fn := fun _ => fun
  | [d] => { results := [.lit (.bool false)], args := [d] }
  | _ => none }
def FnExactIsDeskWrongFalsely : Prop := fnExactIsDeskRow.holds Try.pinned (OpenSpec.ofChange fnExactIsDeskWrong)

/-- 'laws.FnShiftsRound': WHATEVER THE INPUT: true; the input reads as it did. -/
def fnShiftsRoundSpec : ChangeSpec := { name := "fnShiftsRound", fn := fun _ => fun
  | [d1, d2] => { results := [.lit (.bool true)], args := [d1, d2] }
  | _ => none }
def fnShiftsRoundRow : OpenClaim := { program := "ythbpdbkokplgcaa", sum := "f7cfe071c1ac9392082915a3ea9fa4dcbad7bf08850eeaa36f12e1752079f897", func := "loop.example/g01198/laws.FnShiftsRound", spec := "fnShiftsRound", apart := false }
def FnShiftsRoundSaid : Prop := fnShiftsRoundRow.holds Try.pinned (OpenSpec.ofChange fnShiftsRoundSpec)

/-- ITS FALSE NEIGHBOUR: 'it returns false'. Refute it at one input. -/
def fnShiftsRoundWrong : ChangeSpec := { name := "fnShiftsRound", fn := fun _ => fun
  | [d1, d2] => { results := [.lit (.bool false)], args := [d1, d2] }
  | _ => none }
def FnShiftsRoundWrongFalsely : Prop := fnShiftsRoundRow.holds Try.pinned (OpenSpec.ofChange fnShiftsRoundWrong)

/-- 'laws.FnExactFixedBits': WHATEVER THE INPUT: true; the input reads as it did. -/
def fnExactFixedBitsSpec : ChangeSpec := { name := "fnExactFixedBits", fn := fun _ => fun
  | [d1, d2] => { results := [.lit (.bool true)], args := [d1, d2] }
  | _ => none }
def fnExactFixedBitsRow : OpenClaim := { program := "ythbpdbkokplgcaa", sum := "f7cfe071c1ac9392082915a3ea9fa4dcbad7bf08850eeaa36f12e1752079f897", func := "loop.example/g01198/laws.FnExactFixedBits", spec := "fnExactFixedBits", unfollowed := true, recurses := true, apart := false }
def FnExactFixedBitsSaid : Prop := fnExactFixedBitsRow.holds Try.pinned (OpenSpec.ofChange fnExactFixedBitsSpec)

/-- ITS FALSE NEIGHBOUR: 'it returns false'. Refute it at one input. -/
def fnExactFixedBitsWrong : ChangeSpec := { name := "fnExactFixedBits", fn := fun _ => fun
  | [d1, d2] => { results := [.lit (.bool false)], args := [d1, d2] }
  | _ => none }
def FnExactFixedBitsWrongFalsely : Prop := fnExactFixedBitsRow.holds Try.pinned (OpenSpec.ofChange fnExactFixedBitsWrong)

/-- 'laws.FnExactLinesOfSame': WHATEVER THE INPUT: true; the input reads as it did. -/
def fnExactLinesOfSameSpec : ChangeSpec := { name := "fnExactLinesOfSame", fn := fun _ => fun
  | [d1, d2] => { results := [.lit (.bool true)], args := [d1, d2] }
  | _ => none }
def fnExactLinesOfSameRow : OpenClaim := { program := "ythbpdbkokplgcaa", sum := "f7cfe071c1ac9392082915a3ea9fa4dcbad7bf08850eeaa36f12e1752079f897", func := "loop.example/g01198/laws.FnExactLinesOfSame", spec := "fnExactLinesOfSame", unfollowed := true, recurses := true, apart := false }
def FnExactLinesOfSameSaid : Prop := fnExactLinesOfSameRow.holds Try.pinned (OpenSpec.ofChange fnExactLinesOfSameSpec)

/-- ITS FALSE NEIGHBOUR: 'it returns false'. Refute it at one input. -/
def fnExactLinesOfSameWrong : ChangeSpec := { name := "fnExactLinesOfSame", fn := fun _ => fun
  | [d1, d2] => { results := [.lit (.bool false)], args := [d1, d2] }
  | _ => none }
def FnExactLinesOfSameWrongFalsely : Prop := fnExactLinesOfSameRow.holds Try.pinned (OpenSpec.ofChange fnExactLinesOfSameWrong)

/-- 'laws.FnExactPhasesOf': WHATEVER THE INPUT: true; the input reads as it did. -/
def fnExactPhasesOfSpec : ChangeSpec := { name := "fnExactPhasesOf", fn := fun _ => fun
  | [d1, d2] => { results := [.lit (.bool true)], args := [d1, d2] }
  | _ => none }
def fnExactPhasesOfRow : OpenClaim := { program := "ythbpdbkokplgcaa", sum := "f7cfe071c1ac9392082915a3ea9fa4dcbad7bf08850eeaa36f12e1752079f897", func := "loop.example/g01198/laws.FnExactPhasesOf", spec := "fnExactPhasesOf", unfollowed := true, recurses := true, apart := false }
def FnExactPhasesOfSaid : Prop := fnExactPhasesOfRow.holds Try.pinned (OpenSpec.ofChange fnExactPhasesOfSpec)

/-- ITS FALSE NEIGHBOUR: 'it returns false'. Refute it at one input. -/
def fnExactPhasesOfWrong : ChangeSpec := { name := "fnExactPhasesOf", fn := fun _ => fun
  | [d1, d2] => { results := [.lit (.bool false)], args := [d1, d2] }
  | _ => none }
def FnExactPhasesOfWrongFalsely : Prop := fnExactPhasesOfRow.holds Try.pinned (OpenSpec.ofChange fnExactPhasesOfWrong)

/-- 'laws.FnExactFixedValues': WHATEVER THE INPUT: true; the input reads as it did. -/
def fnExactFixedValuesSpec : ChangeSpec := { name := "fnExactFixedValues", fn := fun _ => fun
  | [d1, d2] => { results := [.lit (.bool true)], args := [d1, d2] }
  | _ => none }
def fnExactFixedValuesRow : OpenClaim := { program := "ythbpdbkokplgcaa", sum := "f7cfe071c1ac9392082915a3ea9fa4dcbad7bf08850eeaa36f12e1752079f897", func := "loop.example/g01198/laws.FnExactFixedValues", spec := "fnExactFixedValues", unfollowed := true, recurses := true, apart := false }
def FnExactFixedValuesSaid : Prop := fnExactFixedValuesRow.holds Try.pinned (OpenSpec.ofChange fnExactFixedValuesSpec)

/-- ITS FALSE NEIGHBOUR: 'it returns false'. Refute it at one input. -/
def fnExactFixedValuesWrong : ChangeSpec := { name := "fnExactFixedValues", fn := fun _ => fun
  | [d1, d2] => { results := [.lit (.bool false)], args := [d1, d2] }
  | _ => none }
def FnExactFixedValuesWrongFalsely : Prop := fnExactFixedValuesRow.holds Try.pinned (OpenSpec.ofChange fnExactFixedValuesWrong)

/- THE SECOND FORM. 'bulk': how many values and letters a reading holds, each counted each time it is reached (what is shared counts as often as it is met; a slice's spare places count too). A statement '..UptoSaid' is the law's where the arguments, and the package variables that the reading takes, are together of bulk at most 1048576: NARROWER than '..Said'. Prove '..Said' where nothing that the law and all that it calls make is longer than what came in: it says more and counts as full. Else prove '..UptoSaid'. A law counts once. -/
mutual
def uptoBulk {H : Type} : DataW H → Nat
  | .lit (.string bytes) => bytes.length + 1
  | .lit _ => 1
  | .nil => 1
  | .ptr d => uptoBulk d + 1
  | .slice elems spare => uptoBulkAll elems + uptoBulkAll spare + 1
  | .agg parts => uptoBulkAll parts + 1
  | .iface _ d => uptoBulk d + 1
  | .map entries => uptoBulkEntries entries + 1
  | .held _ => 1
def uptoBulkAll {H : Type} : List (DataW H) → Nat
  | [] => 0
  | d :: r => uptoBulk d + uptoBulkAll r
def uptoBulkEntries {H : Type} : List (Lit × DataW H) → Nat
  | [] => 0
  | x :: r => uptoBulkEntry x + uptoBulkEntries r
def uptoBulkEntry {H : Type} : Lit × DataW H → Nat
  | (.string bytes, d) => bytes.length + uptoBulk d + 1
  | (_, d) => uptoBulk d + 1
 end
def uptoSmall : (H : Type) → List (DataW H) → Bool := fun _ ds => decide (uptoBulkAll ds ≤ 1048576)
def OpenSpec.upto (s : _root_.Go.ChangeSpec) : _root_.Go.OpenSpec := { _root_.Go.OpenSpec.ofChange s with cond := some uptoSmall }

/-- 'laws.FnExactFirstDesk', WHERE WHAT IT READS IS OF BULK AT MOST 1048576: true; the input reads as it did. -/
def fnExactFirstDeskUptoRow : OpenClaim := { program := "ythbpdbkokplgcaa", sum := "f7cfe071c1ac9392082915a3ea9fa4dcbad7bf08850eeaa36f12e1752079f897", func := "loop.example/g01198/laws.FnExactFirstDesk", spec := "fnExactFirstDesk", apart := false, narrowed := true }
def FnExactFirstDeskUptoSaid : Prop := fnExactFirstDeskUptoRow.holds Try.pinned (OpenSpec.upto fnExactFirstDeskSpec)

/-- 'laws.FnExactToneStates', WHERE WHAT IT READS IS OF BULK AT MOST 1048576: true; the input reads as it did. -/
def fnExactToneStatesUptoRow : OpenClaim := { program := "ythbpdbkokplgcaa", sum := "f7cfe071c1ac9392082915a3ea9fa4dcbad7bf08850eeaa36f12e1752079f897", func := "loop.example/g01198/laws.FnExactToneStates", spec := "fnExactToneStates", unfollowed := true, recurses := true, apart := false, narrowed := true }
def FnExactToneStatesUptoSaid : Prop := fnExactToneStatesUptoRow.holds Try.pinned (OpenSpec.upto fnExactToneStatesSpec)

/-- 'laws.FnExactTonePower', WHERE WHAT IT READS IS OF BULK AT MOST 1048576: true; the input reads as it did. -/
def fnExactTonePowerUptoRow : OpenClaim := { program := "ythbpdbkokplgcaa", sum := "f7cfe071c1ac9392082915a3ea9fa4dcbad7bf08850eeaa36f12e1752079f897", func := "loop.example/g01198/laws.FnExactTonePower", spec := "fnExactTonePower", unfollowed := true, recurses := true, apart := false, narrowed := true }
def FnExactTonePowerUptoSaid : Prop := fnExactTonePowerUptoRow.holds Try.pinned (OpenSpec.upto fnExactTonePowerSpec)

/-- 'laws.FnExactIsDesk', WHERE WHAT IT READS IS OF BULK AT MOST 1048576: true; the input reads as it did. -/
def fnExactIsDeskUptoRow : OpenClaim := { program := "ythbpdbkokplgcaa", sum := "f7cfe071c1ac9392082915a3ea9fa4dcbad7bf08850eeaa36f12e1752079f897", func := "loop.example/g01198/laws.FnExactIsDesk", spec := "fnExactIsDesk", unfollowed := true, recurses := true, apart := false, narrowed := true }
def FnExactIsDeskUptoSaid : Prop := fnExactIsDeskUptoRow.holds Try.pinned (OpenSpec.upto fnExactIsDeskSpec)

/-- 'laws.FnShiftsRound', WHERE WHAT IT READS IS OF BULK AT MOST 1048576: true; the input reads as it did. -/
def fnShiftsRoundUptoRow : OpenClaim := { program := "ythbpdbkokplgcaa", sum := "f7cfe071c1ac9392082915a3ea9fa4dcbad7bf08850eeaa36f12e1752079f897", func := "loop.example/g01198/laws.FnShiftsRound", spec := "fnShiftsRound", apart := false, narrowed := true }
def FnShiftsRoundUptoSaid : Prop := fnShiftsRoundUptoRow.holds Try.pinned (OpenSpec.upto fnShiftsRoundSpec)

/-- 'laws.FnExactFixedBits', WHERE WHAT IT READS IS OF BULK AT MOST 1048576: true; the input reads as it did. -/
def fnExactFixedBitsUptoRow : OpenClaim := { program := "ythbpdbkokplgcaa", sum := "f7cfe071c1ac9392082915a3ea9fa4dcbad7bf08850eeaa36f12e1752079f897", func := "loop.example/g01198/laws.FnExactFixedBits", spec := "fnExactFixedBits", unfollowed := true, recurses := true, apart := false, narrowed := true }
def FnExactFixedBitsUptoSaid : Prop := fnExactFixedBitsUptoRow.holds Try.pinned (OpenSpec.upto fnExactFixedBitsSpec)

/-- 'laws.FnExactLinesOfSame', WHERE WHAT IT READS IS OF BULK AT MOST 1048576: true; the input reads as it did. -/
def fnExactLinesOfSameUptoRow : OpenClaim := { program := "ythbpdbkokplgcaa", sum := "f7cfe071c1ac9392082915a3ea9fa4dcbad7bf08850eeaa36f12e1752079f897", func := "loop.example/g01198/laws.FnExactLinesOfSame", spec := "fnExactLinesOfSame", unfollowed := true, recurses := true, apart := false, narrowed := true }
def FnExactLinesOfSameUptoSaid : Prop := fnExactLinesOfSameUptoRow.holds Try.pinned (OpenSpec.upto fnExactLinesOfSameSpec)

/-- 'laws.FnExactPhasesOf', WHERE WHAT IT READS IS OF BULK AT MOST 1048576: true; the input reads as it did. -/
def fnExactPhasesOfUptoRow : OpenClaim := { program := "ythbpdbkokplgcaa", sum := "f7cfe071c1ac9392082915a3ea9fa4dcbad7bf08850eeaa36f12e1752079f897", func := "loop.example/g01198/laws.FnExactPhasesOf", spec := "fnExactPhasesOf", unfollowed := true, recurses := true, apart := false, narrowed := true }
def FnExactPhasesOfUptoSaid : Prop := fnExactPhasesOfUptoRow.holds Try.pinned (OpenSpec.upto fnExactPhasesOfSpec)

/-- 'laws.FnExactFixedValues', WHERE WHAT IT READS IS OF BULK AT MOST 1048576: true; the input reads as it did. -/
def fnExactFixedValuesUptoRow : OpenClaim := { program := "ythbpdbkokplgcaa", sum := "f7cfe071c1ac9392082915a3ea9fa4dcbad7bf08850eeaa36f12e1752079f897", func := "loop.example/g01198/laws.FnExactFixedValues", spec := "fnExactFixedValues", unfollowed := true, recurses := true, apart := false, narrowed := true }
def FnExactFixedValuesUptoSaid : Prop := fnExactFixedValuesUptoRow.holds Try.pinned (OpenSpec.upto fnExactFixedValuesSpec)

end Rows
end Go.Proofs.Ythbpdbkokplgcaa
