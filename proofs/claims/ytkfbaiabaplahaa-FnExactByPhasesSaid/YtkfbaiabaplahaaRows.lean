/-
  No cell of these rows narrows 'for every input' (looked for: loops, veiled, ifaces, maps, wideKeys, modest, calm, conditions, laid).
  DERIVED. THE GIVEN ROWS OF THIS SEAT. 9 by the template 'for every input the law returns true; each argument reads behind the call as it read before'; 0 by the template 'total and deterministic' (their statements: YtkfbaiabaplahaaTotals.lean).
  GIVEN WITH THE SEED: the statements are not yours to turn. If you find one false, say at which input.
  Laid BY PROGRAM, IN A SANDBOX (cutbox-rows.mjs): the forced cells as the released guide's own fill.sh prints them over the translation 60d1de90d0100350… (all of the seat's roots in one cut). By AI agents, Wed Nov 11 2026. No macro, syntax, notation, axiom, sorry.
-/
import Derived.Test.YtkfbaiabaplahaaChecked
import GoSem.Claim
import GoSem.ClaimJoined
import GoSem.ClaimMapViews
import Derived.JoinedTies
import Derived.KernelRfl
namespace Go.Proofs.Ytkfbaiabaplahaa
/- THE CELL 'sum', in the pinned program and in every row, IS THE sha256 OF THE DUMP (.gsa) THAT YtkfbaiabaplahaaProg.lean LOADS. Nothing in Lean hashes anything: it is a label: what it is worth is what the hold of that sum in a sandbox is worth. -/
noncomputable def Try.pinned : Pinned := { name := "ytkfbaiabaplahaa", sum := "60d1de90d01003502fb0a64cf4b5b53c0b5577026d27a10bae879da993a226c4", checked := Try.checked }
namespace Rows
def none {H : Type} : Left H := { results := [], args := [] }

/-- 'laws.FnExactStepBits': WHATEVER THE INPUT: true; the input reads as it did. -/
def fnExactStepBitsSpec : ChangeSpec := { name := "fnExactStepBits", fn := fun _ => fun
  | [d1, d2] => { results := [.lit (.bool true)], args := [d1, d2] }
  | _ => none }
def fnExactStepBitsRow : OpenClaim := { program := "ytkfbaiabaplahaa", sum := "60d1de90d01003502fb0a64cf4b5b53c0b5577026d27a10bae879da993a226c4", func := "loop.example/g01198/laws.FnExactStepBits", spec := "fnExactStepBits", unfollowed := true, recurses := true, apart := false }
def FnExactStepBitsSaid : Prop := fnExactStepBitsRow.holds Try.pinned (OpenSpec.ofChange fnExactStepBitsSpec)

/-- ITS FALSE NEIGHBOUR: 'it returns false'. Refute it at one input. -/
def fnExactStepBitsWrong : ChangeSpec := { name := "fnExactStepBits", fn := fun _ => fun
  | [d1, d2] => { results := [.lit (.bool false)], args := [d1, d2] }
  | _ => none }
def FnExactStepBitsWrongFalsely : Prop := fnExactStepBitsRow.holds Try.pinned (OpenSpec.ofChange fnExactStepBitsWrong)

/-- 'laws.FnExactByPhases': WHATEVER THE INPUT: true; the input reads as it did. -/
def fnExactByPhasesSpec : ChangeSpec := { name := "fnExactByPhases", fn := fun _ => fun
  | [d1, d2, d3, d4] => { results := [.lit (.bool true)], args := [d1, d2, d3, d4] }
  | _ => none }
def fnExactByPhasesRow : OpenClaim := { program := "ytkfbaiabaplahaa", sum := "60d1de90d01003502fb0a64cf4b5b53c0b5577026d27a10bae879da993a226c4", func := "loop.example/g01198/laws.FnExactByPhases", spec := "fnExactByPhases", unfollowed := true, recurses := true, apart := false }
def FnExactByPhasesSaid : Prop := fnExactByPhasesRow.holds Try.pinned (OpenSpec.ofChange fnExactByPhasesSpec)

/-- ITS FALSE NEIGHBOUR: 'it returns false'. Refute it at one input. -/
def fnExactByPhasesWrong : ChangeSpec := { name := "fnExactByPhases", fn := fun _ => fun
  | [d1, d2, d3, d4] => { results := [.lit (.bool false)], args := [d1, d2, d3, d4] }
  | _ => none }
def FnExactByPhasesWrongFalsely : Prop := fnExactByPhasesRow.holds Try.pinned (OpenSpec.ofChange fnExactByPhasesWrong)

/-- 'laws.FnExactJoinPhases': WHATEVER THE INPUT: true; the input reads as it did. -/
def fnExactJoinPhasesSpec : ChangeSpec := { name := "fnExactJoinPhases", fn := fun _ => fun
  | [d] => { results := [.lit (.bool true)], args := [d] }
  | _ => none }
def fnExactJoinPhasesRow : OpenClaim := { program := "ytkfbaiabaplahaa", sum := "60d1de90d01003502fb0a64cf4b5b53c0b5577026d27a10bae879da993a226c4", func := "loop.example/g01198/laws.FnExactJoinPhases", spec := "fnExactJoinPhases", unfollowed := true, recurses := true, apart := false }
def FnExactJoinPhasesSaid : Prop := fnExactJoinPhasesRow.holds Try.pinned (OpenSpec.ofChange fnExactJoinPhasesSpec)

/-- ITS FALSE NEIGHBOUR: 'it returns false'. Refute it at one input. -/
def fnExactJoinPhasesWrong : ChangeSpec := { name := "fnExactJoinPhases", fn := fun _ => fun
  | [d] => { results := [.lit (.bool false)], args := [d] }
  | _ => none }
def FnExactJoinPhasesWrongFalsely : Prop := fnExactJoinPhasesRow.holds Try.pinned (OpenSpec.ofChange fnExactJoinPhasesWrong)

/-- 'laws.FnExactStepValues': WHATEVER THE INPUT: true; the input reads as it did. -/
def fnExactStepValuesSpec : ChangeSpec := { name := "fnExactStepValues", fn := fun _ => fun
  | [d1, d2] => { results := [.lit (.bool true)], args := [d1, d2] }
  | _ => none }
def fnExactStepValuesRow : OpenClaim := { program := "ytkfbaiabaplahaa", sum := "60d1de90d01003502fb0a64cf4b5b53c0b5577026d27a10bae879da993a226c4", func := "loop.example/g01198/laws.FnExactStepValues", spec := "fnExactStepValues", unfollowed := true, recurses := true, apart := false }
def FnExactStepValuesSaid : Prop := fnExactStepValuesRow.holds Try.pinned (OpenSpec.ofChange fnExactStepValuesSpec)

/-- ITS FALSE NEIGHBOUR: 'it returns false'. Refute it at one input. -/
def fnExactStepValuesWrong : ChangeSpec := { name := "fnExactStepValues", fn := fun _ => fun
  | [d1, d2] => { results := [.lit (.bool false)], args := [d1, d2] }
  | _ => none }
def FnExactStepValuesWrongFalsely : Prop := fnExactStepValuesRow.holds Try.pinned (OpenSpec.ofChange fnExactStepValuesWrong)

/-- 'laws.FnExactStepsOfBits': WHATEVER THE INPUT: true; the input reads as it did. -/
def fnExactStepsOfBitsSpec : ChangeSpec := { name := "fnExactStepsOfBits", fn := fun _ => fun
  | [d1, d2] => { results := [.lit (.bool true)], args := [d1, d2] }
  | _ => none }
def fnExactStepsOfBitsRow : OpenClaim := { program := "ytkfbaiabaplahaa", sum := "60d1de90d01003502fb0a64cf4b5b53c0b5577026d27a10bae879da993a226c4", func := "loop.example/g01198/laws.FnExactStepsOfBits", spec := "fnExactStepsOfBits", unfollowed := true, recurses := true, apart := false }
def FnExactStepsOfBitsSaid : Prop := fnExactStepsOfBitsRow.holds Try.pinned (OpenSpec.ofChange fnExactStepsOfBitsSpec)

/-- ITS FALSE NEIGHBOUR: 'it returns false'. Refute it at one input. -/
def fnExactStepsOfBitsWrong : ChangeSpec := { name := "fnExactStepsOfBits", fn := fun _ => fun
  | [d1, d2] => { results := [.lit (.bool false)], args := [d1, d2] }
  | _ => none }
def FnExactStepsOfBitsWrongFalsely : Prop := fnExactStepsOfBitsRow.holds Try.pinned (OpenSpec.ofChange fnExactStepsOfBitsWrong)

/-- 'laws.FnExactUpFilterDown': WHATEVER THE INPUT: true; the input reads as it did. -/
def fnExactUpFilterDownSpec : ChangeSpec := { name := "fnExactUpFilterDown", fn := fun _ => fun
  | [d1, d2, d3, d4] => { results := [.lit (.bool true)], args := [d1, d2, d3, d4] }
  | _ => none }
def fnExactUpFilterDownRow : OpenClaim := { program := "ytkfbaiabaplahaa", sum := "60d1de90d01003502fb0a64cf4b5b53c0b5577026d27a10bae879da993a226c4", func := "loop.example/g01198/laws.FnExactUpFilterDown", spec := "fnExactUpFilterDown", unfollowed := true, recurses := true, apart := false }
def FnExactUpFilterDownSaid : Prop := fnExactUpFilterDownRow.holds Try.pinned (OpenSpec.ofChange fnExactUpFilterDownSpec)

/-- ITS FALSE NEIGHBOUR: 'it returns false'. Refute it at one input. -/
def fnExactUpFilterDownWrong : ChangeSpec := { name := "fnExactUpFilterDown", fn := fun _ => fun
  | [d1, d2, d3, d4] => { results := [.lit (.bool false)], args := [d1, d2, d3, d4] }
  | _ => none }
def FnExactUpFilterDownWrongFalsely : Prop := fnExactUpFilterDownRow.holds Try.pinned (OpenSpec.ofChange fnExactUpFilterDownWrong)

/-- 'laws.FnExactStepGaps': WHATEVER THE INPUT: true; the input reads as it did. -/
def fnExactStepGapsSpec : ChangeSpec := { name := "fnExactStepGaps", fn := fun _ => fun
  | [d1, d2] => { results := [.lit (.bool true)], args := [d1, d2] }
  | _ => none }
def fnExactStepGapsRow : OpenClaim := { program := "ytkfbaiabaplahaa", sum := "60d1de90d01003502fb0a64cf4b5b53c0b5577026d27a10bae879da993a226c4", func := "loop.example/g01198/laws.FnExactStepGaps", spec := "fnExactStepGaps", unfollowed := true, recurses := true, apart := false }
def FnExactStepGapsSaid : Prop := fnExactStepGapsRow.holds Try.pinned (OpenSpec.ofChange fnExactStepGapsSpec)

/-- ITS FALSE NEIGHBOUR: 'it returns false'. Refute it at one input. -/
def fnExactStepGapsWrong : ChangeSpec := { name := "fnExactStepGaps", fn := fun _ => fun
  | [d1, d2] => { results := [.lit (.bool false)], args := [d1, d2] }
  | _ => none }
def FnExactStepGapsWrongFalsely : Prop := fnExactStepGapsRow.holds Try.pinned (OpenSpec.ofChange fnExactStepGapsWrong)

/-- 'laws.FnExactDownFilter': WHATEVER THE INPUT: true; the input reads as it did. -/
def fnExactDownFilterSpec : ChangeSpec := { name := "fnExactDownFilter", fn := fun _ => fun
  | [d1, d2, d3] => { results := [.lit (.bool true)], args := [d1, d2, d3] }
  | _ => none }
def fnExactDownFilterRow : OpenClaim := { program := "ytkfbaiabaplahaa", sum := "60d1de90d01003502fb0a64cf4b5b53c0b5577026d27a10bae879da993a226c4", func := "loop.example/g01198/laws.FnExactDownFilter", spec := "fnExactDownFilter", unfollowed := true, recurses := true, apart := false }
def FnExactDownFilterSaid : Prop := fnExactDownFilterRow.holds Try.pinned (OpenSpec.ofChange fnExactDownFilterSpec)

/-- ITS FALSE NEIGHBOUR: 'it returns false'. Refute it at one input. -/
def fnExactDownFilterWrong : ChangeSpec := { name := "fnExactDownFilter", fn := fun _ => fun
  | [d1, d2, d3] => { results := [.lit (.bool false)], args := [d1, d2, d3] }
  | _ => none }
def FnExactDownFilterWrongFalsely : Prop := fnExactDownFilterRow.holds Try.pinned (OpenSpec.ofChange fnExactDownFilterWrong)

/-- 'laws.FnExactUpFilter': WHATEVER THE INPUT: true; the input reads as it did. -/
def fnExactUpFilterSpec : ChangeSpec := { name := "fnExactUpFilter", fn := fun _ => fun
  | [d1, d2, d3] => { results := [.lit (.bool true)], args := [d1, d2, d3] }
  | _ => none }
def fnExactUpFilterRow : OpenClaim := { program := "ytkfbaiabaplahaa", sum := "60d1de90d01003502fb0a64cf4b5b53c0b5577026d27a10bae879da993a226c4", func := "loop.example/g01198/laws.FnExactUpFilter", spec := "fnExactUpFilter", unfollowed := true, recurses := true, apart := false }
def FnExactUpFilterSaid : Prop := fnExactUpFilterRow.holds Try.pinned (OpenSpec.ofChange fnExactUpFilterSpec)

/-- ITS FALSE NEIGHBOUR: 'it returns false'. Refute it at one input. -/
def fnExactUpFilterWrong : ChangeSpec := { name := "fnExactUpFilter", fn := fun _ => fun
  | [d1, d2, d3] => { results := [.lit (.bool false)], args := [d1, d2, d3] }
  | _ => none }
def FnExactUpFilterWrongFalsely : Prop := fnExactUpFilterRow.holds Try.pinned (OpenSpec.ofChange fnExactUpFilterWrong)

/- THE SECOND FORM. 'bulk': how many values and letters a reading holds, each counted each time it is reached (what is shared counts as often as it is met; a slice's spare places count too). A statement '..UptoSaid' is the law's where the arguments, and the package variables that the reading takes, are together of bulk at most 1048576: NARROWER than '..Said'. Prove '..Said' where nothing that the law and all that it calls make is longer than what came in: it says more and counts as full. Else prove '..UptoSaid'. A law counts once. -/
mutual
def uptoBulk {H : Type} : DataW H → Nat
  | .lit (.string bytes) => bytes.length + 1
  | .lit _ => 1
  | .nil => 1
  | .ptr d => uptoBulk d + 1
  | .slice elems spare => uptoBulkAll elems + uptoBulkAll spare + 1
  | .agg parts => uptoBulkAll parts + 1
  | .iface _ d => uptoBulk d + 1
  | .map entries => uptoBulkEntries entries + 1
  | .held _ => 1
def uptoBulkAll {H : Type} : List (DataW H) → Nat
  | [] => 0
  | d :: r => uptoBulk d + uptoBulkAll r
def uptoBulkEntries {H : Type} : List (Lit × DataW H) → Nat
  | [] => 0
  | x :: r => uptoBulkEntry x + uptoBulkEntries r
def uptoBulkEntry {H : Type} : Lit × DataW H → Nat
  | (.string bytes, d) => bytes.length + uptoBulk d + 1
  | (_, d) => uptoBulk d + 1
 end
def uptoSmall : (H : Type) → List (DataW H) → Bool := fun _ ds => decide (uptoBulkAll ds ≤ 1048576)
def OpenSpec.upto (s : _root_.Go.ChangeSpec) : _root_.Go.OpenSpec := { _root_.Go.OpenSpec.ofChange s with cond := some uptoSmall }

/-- 'laws.FnExactStepBits', WHERE WHAT IT READS IS OF BULK AT MOST 1048576: true; the input reads as it did. -/
def fnExactStepBitsUptoRow : OpenClaim := { program := "ytkfbaiabaplahaa", sum := "60d1de90d01003502fb0a64cf4b5b53c0b5577026d27a10bae879da993a226c4", func := "loop.example/g01198/laws.FnExactStepBits", spec := "fnExactStepBits", unfollowed := true, recurses := true, apart := false, narrowed := true }
def FnExactStepBitsUptoSaid : Prop := fnExactStepBitsUptoRow.holds Try.pinned (OpenSpec.upto fnExactStepBitsSpec)

/-- 'laws.FnExactByPhases', WHERE WHAT IT READS IS OF BULK AT MOST 1048576: true; the input reads as it did. -/
def fnExactByPhasesUptoRow : OpenClaim := { program := "ytkfbaiabaplahaa", sum := "60d1de90d01003502fb0a64cf4b5b53c0b5577026d27a10bae879da993a226c4", func := "loop.example/g01198/laws.FnExactByPhases", spec := "fnExactByPhases", unfollowed := true, recurses := true, apart := false, narrowed := true }
def FnExactByPhasesUptoSaid : Prop := fnExactByPhasesUptoRow.holds Try.pinned (OpenSpec.upto fnExactByPhasesSpec)

/-- 'laws.FnExactJoinPhases', WHERE WHAT IT READS IS OF BULK AT MOST 1048576: true; the input reads as it did. -/
def fnExactJoinPhasesUptoRow : OpenClaim := { program := "ytkfbaiabaplahaa", sum := "60d1de90d01003502fb0a64cf4b5b53c0b5577026d27a10bae879da993a226c4", func := "loop.example/g01198/laws.FnExactJoinPhases", spec := "fnExactJoinPhases", unfollowed := true, recurses := true, apart := false, narrowed := true }
def FnExactJoinPhasesUptoSaid : Prop := fnExactJoinPhasesUptoRow.holds Try.pinned (OpenSpec.upto fnExactJoinPhasesSpec)

/-- 'laws.FnExactStepValues', WHERE WHAT IT READS IS OF BULK AT MOST 1048576: true; the input reads as it did. -/
def fnExactStepValuesUptoRow : OpenClaim := { program := "ytkfbaiabaplahaa", sum := "60d1de90d01003502fb0a64cf4b5b53c0b5577026d27a10bae879da993a226c4", func := "loop.example/g01198/laws.FnExactStepValues", spec := "fnExactStepValues", unfollowed := true, recurses := true, apart := false, narrowed := true }
def FnExactStepValuesUptoSaid : Prop := fnExactStepValuesUptoRow.holds Try.pinned (OpenSpec.upto fnExactStepValuesSpec)

/-- 'laws.FnExactStepsOfBits', WHERE WHAT IT READS IS OF BULK AT MOST 1048576: true; the input reads as it did. -/
def fnExactStepsOfBitsUptoRow : OpenClaim := { program := "ytkfbaiabaplahaa", sum := "60d1de90d01003502fb0a64cf4b5b53c0b5577026d27a10bae879da993a226c4", func := "loop.example/g01198/laws.FnExactStepsOfBits", spec := "fnExactStepsOfBits", unfollowed := true, recurses := true, apart := false, narrowed := true }
def FnExactStepsOfBitsUptoSaid : Prop := fnExactStepsOfBitsUptoRow.holds Try.pinned (OpenSpec.upto fnExactStepsOfBitsSpec)

/-- 'laws.FnExactUpFilterDown', WHERE WHAT IT READS IS OF BULK AT MOST 1048576: true; the input reads as it did. -/
def fnExactUpFilterDownUptoRow : OpenClaim := { program := "ytkfbaiabaplahaa", sum := "60d1de90d01003502fb0a64cf4b5b53c0b5577026d27a10bae879da993a226c4", func := "loop.example/g01198/laws.FnExactUpFilterDown", spec := "fnExactUpFilterDown", unfollowed := true, recurses := true, apart := false, narrowed := true }
def FnExactUpFilterDownUptoSaid : Prop := fnExactUpFilterDownUptoRow.holds Try.pinned (OpenSpec.upto fnExactUpFilterDownSpec)

/-- 'laws.FnExactStepGaps', WHERE WHAT IT READS IS OF BULK AT MOST 1048576: true; the input reads as it did. -/
def fnExactStepGapsUptoRow : OpenClaim := { program := "ytkfbaiabaplahaa", sum := "60d1de90d01003502fb0a64cf4b5b53c0b5577026d27a10bae879da993a226c4", func := "loop.example/g01198/laws.FnExactStepGaps", spec := "fnExactStepGaps", unfollowed := true, recurses := true, apart := false, narrowed := true }
def FnExactStepGapsUptoSaid : Prop := fnExactStepGapsUptoRow.holds Try.pinned (OpenSpec.upto fnExactStepGapsSpec)

/-- 'laws.FnExactDownFilter', WHERE WHAT IT READS IS OF BULK AT MOST 1048576: true; the input reads as it did. -/
def fnExactDownFilterUptoRow : OpenClaim := { program := "ytkfbaiabaplahaa", sum := "60d1de90d01003502fb0a64cf4b5b53c0b5577026d27a10bae879da993a226c4", func := "loop.example/g01198/laws.FnExactDownFilter", spec := "fnExactDownFilter", unfollowed := true, recurses := true, apart := false, narrowed := true }
def FnExactDownFilterUptoSaid : Prop := fnExactDownFilterUptoRow.holds Try.pinned (OpenSpec.upto fnExactDownFilterSpec)

/-- 'laws.FnExactUpFilter', WHERE WHAT IT READS IS OF BULK AT MOST 1048576: true; the input reads as it did. -/
def fnExactUpFilterUptoRow : OpenClaim := { program := "ytkfbaiabaplahaa", sum := "60d1de90d01003502fb0a64cf4b5b53c0b5577026d27a10bae879da993a226c4", func := "loop.example/g01198/laws.FnExactUpFilter", spec := "fnExactUpFilter", unfollowed := true, recurses := true, apart := false, narrowed := true }
def FnExactUpFilterUptoSaid : Prop := fnExactUpFilterUptoRow.holds Try.pinned (OpenSpec.upto fnExactUpFilterSpec)

end Rows
end Go.Proofs.Ytkfbaiabaplahaa
