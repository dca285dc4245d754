/-
  No cell of these rows narrows 'for every input' (looked for: loops, veiled, ifaces, maps, wideKeys, modest, calm, conditions, laid).
  DERIVED. THE GIVEN ROWS OF THIS SEAT. 10 by the template 'for every input the law returns true; each argument reads behind the call as it read before'; 0 by the template 'total and deterministic' (their statements: YtjplcongellcmaaTotals.lean).
  GIVEN WITH THE SEED: the statements are not yours to turn. If you find one false, say at which input.
  Laid BY PROGRAM, IN A SANDBOX (cutbox-rows.mjs): the forced cells as the released guide's own fill.sh prints them over the translation dac7eaaff8c2d201… (all of the seat's roots in one cut). By AI agents, Wed Nov 11 2026. No macro, syntax, notation, axiom, sorry.
-/
import Derived.Test.YtjplcongellcmaaChecked
import GoSem.Claim
import GoSem.ClaimJoined
import GoSem.ClaimMapViews
import Derived.JoinedTies
import Derived.KernelRfl
namespace Go.Proofs.Ytjplcongellcmaa
/- THE CELL 'sum', in the pinned program and in every row, IS THE sha256 OF THE DUMP (.gsa) THAT YtjplcongellcmaaProg.lean LOADS. Nothing in Lean hashes anything: it is a label: what it is worth is what the hold of that sum in a sandbox is worth. -/
noncomputable def Try.pinned : Pinned := { name := "ytjplcongellcmaa", sum := "dac7eaaff8c2d20103057f0d64bf3721516bc172fbdda741ffbe0e3555ff0f34", checked := Try.checked }
namespace Rows
def none {H : Type} : Left H := { results := [], args := [] }

/-- 'laws.FnRatesChanged': WHATEVER THE INPUT: true; the input reads as it did. -/
def fnRatesChangedSpec : ChangeSpec := { name := "fnRatesChanged", fn := fun _ => fun
  | [d1, d2] => { results := [.lit (.bool true)], args := [d1, d2] }
  | _ => none }
def fnRatesChangedRow : OpenClaim := { program := "ytjplcongellcmaa", sum := "dac7eaaff8c2d20103057f0d64bf3721516bc172fbdda741ffbe0e3555ff0f34", func := "loop.example/g01198/laws.FnRatesChanged", spec := "fnRatesChanged", unfollowed := true, recurses := true, apart := false }
def FnRatesChangedSaid : Prop := fnRatesChangedRow.holds Try.pinned (OpenSpec.ofChange fnRatesChangedSpec)

/-- ITS FALSE NEIGHBOUR: 'it returns false'. Refute it at one input. -/
def fnRatesChangedWrong : ChangeSpec := { name := "fnRatesChanged", fn := fun _ => fun
  | [d1, d2] => { results := [.lit (.bool false)], args := [d1, d2] }
  | _ => none }
def FnRatesChangedWrongFalsely : Prop := fnRatesChangedRow.holds Try.pinned (OpenSpec.ofChange fnRatesChangedWrong)

/-- 'laws.FnStepsAdapt': WHATEVER THE INPUT: true; the input reads as it did. -/
def fnStepsAdaptSpec : ChangeSpec := { name := "fnStepsAdapt", fn := fun _ => fun
  | [d1, d2] => { results := [.lit (.bool true)], args := [d1, d2] }
  | _ => none }
def fnStepsAdaptRow : OpenClaim := { program := "ytjplcongellcmaa", sum := "dac7eaaff8c2d20103057f0d64bf3721516bc172fbdda741ffbe0e3555ff0f34", func := "loop.example/g01198/laws.FnStepsAdapt", spec := "fnStepsAdapt", unfollowed := true, recurses := true, apart := false }
def FnStepsAdaptSaid : Prop := fnStepsAdaptRow.holds Try.pinned (OpenSpec.ofChange fnStepsAdaptSpec)

/-- ITS FALSE NEIGHBOUR: 'it returns false'. Refute it at one input. -/
def fnStepsAdaptWrong : ChangeSpec := { name := "fnStepsAdapt", fn := fun _ => fun
  | [d1, d2] => { results := [.lit (.bool false)], args := [d1, d2] }
  | _ => none }
def FnStepsAdaptWrongFalsely : Prop := fnStepsAdaptRow.holds Try.pinned (OpenSpec.ofChange fnStepsAdaptWrong)

/-- 'laws.FnFiltersInWords': WHATEVER THE INPUT: true; the input reads as it did. -/
def fnFiltersInWordsSpec : ChangeSpec := { name := "fnFiltersInWords", fn := fun _ => fun
  | [d1, d2] => { results := [.lit (.bool true)], args := [d1, d2] }
  | _ => none }
def fnFiltersInWordsRow : OpenClaim := { program := "ytjplcongellcmaa", sum := "dac7eaaff8c2d20103057f0d64bf3721516bc172fbdda741ffbe0e3555ff0f34", func := "loop.example/g01198/laws.FnFiltersInWords", spec := "fnFiltersInWords", unfollowed := true, recurses := true, apart := false }
def FnFiltersInWordsSaid : Prop := fnFiltersInWordsRow.holds Try.pinned (OpenSpec.ofChange fnFiltersInWordsSpec)

/-- ITS FALSE NEIGHBOUR: 'it returns false'. Refute it at one input. -/
def fnFiltersInWordsWrong : ChangeSpec := { name := "fnFiltersInWords", fn := fun _ => fun
  | [d1, d2] => { results := [.lit (.bool false)], args := [d1, d2] }
  | _ => none }
def FnFiltersInWordsWrongFalsely : Prop := fnFiltersInWordsRow.holds Try.pinned (OpenSpec.ofChange fnFiltersInWordsWrong)

/-- 'laws.FnWeightsMultiply': WHATEVER THE INPUT: true; the input reads as it did. -/
def fnWeightsMultiplySpec : ChangeSpec := { name := "fnWeightsMultiply", fn := fun _ => fun
  | [d1, d2] => { results := [.lit (.bool true)], args := [d1, d2] }
  | _ => none }
def fnWeightsMultiplyRow : OpenClaim := { program := "ytjplcongellcmaa", sum := "dac7eaaff8c2d20103057f0d64bf3721516bc172fbdda741ffbe0e3555ff0f34", func := "loop.example/g01198/laws.FnWeightsMultiply", spec := "fnWeightsMultiply", unfollowed := true, recurses := true, apart := false }
def FnWeightsMultiplySaid : Prop := fnWeightsMultiplyRow.holds Try.pinned (OpenSpec.ofChange fnWeightsMultiplySpec)

/-- ITS FALSE NEIGHBOUR: 'it returns false'. Refute it at one input. -/
def fnWeightsMultiplyWrong : ChangeSpec := { name := "fnWeightsMultiply", fn := fun _ => fun
  | [d1, d2] => { results := [.lit (.bool false)], args := [d1, d2] }
  | _ => none }
def FnWeightsMultiplyWrongFalsely : Prop := fnWeightsMultiplyRow.holds Try.pinned (OpenSpec.ofChange fnWeightsMultiplyWrong)

/-- 'laws.FnFirstRuns': WHATEVER THE INPUT: true; the input reads as it did. -/
def fnFirstRunsSpec : ChangeSpec := { name := "fnFirstRuns", fn := fun _ => fun
  | [d1, d2] => { results := [.lit (.bool true)], args := [d1, d2] }
  | _ => none }
def fnFirstRunsRow : OpenClaim := { program := "ytjplcongellcmaa", sum := "dac7eaaff8c2d20103057f0d64bf3721516bc172fbdda741ffbe0e3555ff0f34", func := "loop.example/g01198/laws.FnFirstRuns", spec := "fnFirstRuns", unfollowed := true, recurses := true, apart := false }
def FnFirstRunsSaid : Prop := fnFirstRunsRow.holds Try.pinned (OpenSpec.ofChange fnFirstRunsSpec)

/-- ITS FALSE NEIGHBOUR: 'it returns false'. Refute it at one input. -/
def fnFirstRunsWrong : ChangeSpec := { name := "fnFirstRuns", fn := fun _ => fun
  | [d1, d2] => { results := [.lit (.bool false)], args := [d1, d2] }
  | _ => none }
def FnFirstRunsWrongFalsely : Prop := fnFirstRunsRow.holds Try.pinned (OpenSpec.ofChange fnFirstRunsWrong)

/-- 'laws.FnFirstCycles': WHATEVER THE INPUT: true; the input reads as it did. -/
def fnFirstCyclesSpec : ChangeSpec := { name := "fnFirstCycles", fn := fun _ => fun
  | [d1, d2] => { results := [.lit (.bool true)], args := [d1, d2] }
  | _ => none }
def fnFirstCyclesRow : OpenClaim := { program := "ytjplcongellcmaa", sum := "dac7eaaff8c2d20103057f0d64bf3721516bc172fbdda741ffbe0e3555ff0f34", func := "loop.example/g01198/laws.FnFirstCycles", spec := "fnFirstCycles", unfollowed := true, recurses := true, apart := false }
def FnFirstCyclesSaid : Prop := fnFirstCyclesRow.holds Try.pinned (OpenSpec.ofChange fnFirstCyclesSpec)

/-- ITS FALSE NEIGHBOUR: 'it returns false'. Refute it at one input. -/
def fnFirstCyclesWrong : ChangeSpec := { name := "fnFirstCycles", fn := fun _ => fun
  | [d1, d2] => { results := [.lit (.bool false)], args := [d1, d2] }
  | _ => none }
def FnFirstCyclesWrongFalsely : Prop := fnFirstCyclesRow.holds Try.pinned (OpenSpec.ofChange fnFirstCyclesWrong)

/-- 'laws.FnCombsWrap': WHATEVER THE INPUT: true; the input reads as it did. -/
def fnCombsWrapSpec : ChangeSpec := { name := "fnCombsWrap", fn := fun _ => fun
  | [d1, d2] => { results := [.lit (.bool true)], args := [d1, d2] }
  | _ => none }
def fnCombsWrapRow : OpenClaim := { program := "ytjplcongellcmaa", sum := "dac7eaaff8c2d20103057f0d64bf3721516bc172fbdda741ffbe0e3555ff0f34", func := "loop.example/g01198/laws.FnCombsWrap", spec := "fnCombsWrap", unfollowed := true, recurses := true, apart := false }
def FnCombsWrapSaid : Prop := fnCombsWrapRow.holds Try.pinned (OpenSpec.ofChange fnCombsWrapSpec)

/-- ITS FALSE NEIGHBOUR: 'it returns false'. Refute it at one input. -/
def fnCombsWrapWrong : ChangeSpec := { name := "fnCombsWrap", fn := fun _ => fun
  | [d1, d2] => { results := [.lit (.bool false)], args := [d1, d2] }
  | _ => none }
def FnCombsWrapWrongFalsely : Prop := fnCombsWrapRow.holds Try.pinned (OpenSpec.ofChange fnCombsWrapWrong)

/-- 'laws.FnPairsRun': WHATEVER THE INPUT: true; the input reads as it did. -/
def fnPairsRunSpec : ChangeSpec := { name := "fnPairsRun", fn := fun _ => fun
  | [d1, d2] => { results := [.lit (.bool true)], args := [d1, d2] }
  | _ => none }
def fnPairsRunRow : OpenClaim := { program := "ytjplcongellcmaa", sum := "dac7eaaff8c2d20103057f0d64bf3721516bc172fbdda741ffbe0e3555ff0f34", func := "loop.example/g01198/laws.FnPairsRun", spec := "fnPairsRun", unfollowed := true, recurses := true, apart := false }
def FnPairsRunSaid : Prop := fnPairsRunRow.holds Try.pinned (OpenSpec.ofChange fnPairsRunSpec)

/-- ITS FALSE NEIGHBOUR: 'it returns false'. Refute it at one input. -/
def fnPairsRunWrong : ChangeSpec := { name := "fnPairsRun", fn := fun _ => fun
  | [d1, d2] => { results := [.lit (.bool false)], args := [d1, d2] }
  | _ => none }
def FnPairsRunWrongFalsely : Prop := fnPairsRunRow.holds Try.pinned (OpenSpec.ofChange fnPairsRunWrong)

/-- 'laws.FnPhasesWork': WHATEVER THE INPUT: true; the input reads as it did. -/
def fnPhasesWorkSpec : ChangeSpec := { name := "fnPhasesWork", fn := fun _ => fun
  | [d1, d2] => { results := [.lit (.bool true)], args := [d1, d2] }
  | _ => none }
def fnPhasesWorkRow : OpenClaim := { program := "ytjplcongellcmaa", sum := "dac7eaaff8c2d20103057f0d64bf3721516bc172fbdda741ffbe0e3555ff0f34", func := "loop.example/g01198/laws.FnPhasesWork", spec := "fnPhasesWork", unfollowed := true, recurses := true, apart := false }
def FnPhasesWorkSaid : Prop := fnPhasesWorkRow.holds Try.pinned (OpenSpec.ofChange fnPhasesWorkSpec)

/-- ITS FALSE NEIGHBOUR: 'it returns false'. Refute it at one input. -/
def fnPhasesWorkWrong : ChangeSpec := { name := "fnPhasesWork", fn := fun _ => fun
  | [d1, d2] => { results := [.lit (.bool false)], args := [d1, d2] }
  | _ => none }
def FnPhasesWorkWrongFalsely : Prop := fnPhasesWorkRow.holds Try.pinned (OpenSpec.ofChange fnPhasesWorkWrong)

/-- 'laws.FnSumsUndone': WHATEVER THE INPUT: true; the input reads as it did. -/
def fnSumsUndoneSpec : ChangeSpec := { name := "fnSumsUndone", fn := fun _ => fun
  | [d1, d2] => { results := [.lit (.bool true)], args := [d1, d2] }
  | _ => none }
def fnSumsUndoneRow : OpenClaim := { program := "ytjplcongellcmaa", sum := "dac7eaaff8c2d20103057f0d64bf3721516bc172fbdda741ffbe0e3555ff0f34", func := "loop.example/g01198/laws.FnSumsUndone", spec := "fnSumsUndone", unfollowed := true, recurses := true, apart := false }
def FnSumsUndoneSaid : Prop := fnSumsUndoneRow.holds Try.pinned (OpenSpec.ofChange fnSumsUndoneSpec)

/-- ITS FALSE NEIGHBOUR: 'it returns false'. Refute it at one input. -/
def fnSumsUndoneWrong : ChangeSpec := { name := "fnSumsUndone", fn := fun _ => fun
  | [d1, d2] => { results := [.lit (.bool false)], args := [d1, d2] }
  | _ => none }
def FnSumsUndoneWrongFalsely : Prop := fnSumsUndoneRow.holds Try.pinned (OpenSpec.ofChange fnSumsUndoneWrong)

/- THE SECOND FORM. 'bulk': how many values and letters a reading holds, each counted each time it is reached (what is shared counts as often as it is met; a slice's spare places count too). A statement '..UptoSaid' is the law's where the arguments, and the package variables that the reading takes, are together of bulk at most 1048576: NARROWER than '..Said'. Prove '..Said' where nothing that the law and all that it calls make is longer than what came in: it says more and counts as full. Else prove '..UptoSaid'. A law counts once. -/
mutual
def uptoBulk {H : Type} : DataW H → Nat
  | .lit (.string bytes) => bytes.length + 1
  | .lit _ => 1
  | .nil => 1
  | .ptr d => uptoBulk d + 1
  | .slice elems spare => uptoBulkAll elems + uptoBulkAll spare + 1
  | .agg parts => uptoBulkAll parts + 1
  | .iface _ d => uptoBulk d + 1
  | .map entries => uptoBulkEntries entries + 1
  | .held _ => 1
def uptoBulkAll {H : Type} : List (DataW H) → Nat
  | [] => 0
  | d :: r => uptoBulk d + uptoBulkAll r
def uptoBulkEntries {H : Type} : List (Lit × DataW H) → Nat
  | [] => 0
  | x :: r => uptoBulkEntry x + uptoBulkEntries r
def uptoBulkEntry {H : Type} : Lit × DataW H → Nat
  | (.string bytes, d) => bytes.length + uptoBulk d + 1
  | (_, d) => uptoBulk d + 1
 end
def uptoSmall : (H : Type) → List (DataW H) → Bool := fun _ ds => decide (uptoBulkAll ds ≤ 1048576)
def OpenSpec.upto (s : _root_.Go.ChangeSpec) : _root_.Go.OpenSpec := { _root_.Go.OpenSpec.ofChange s with cond := some uptoSmall }

/-- 'laws.FnRatesChanged', WHERE WHAT IT READS IS OF BULK AT MOST 1048576: true; the input reads as it did. -/
def fnRatesChangedUptoRow : OpenClaim := { program := "ytjplcongellcmaa", sum := "dac7eaaff8c2d20103057f0d64bf3721516bc172fbdda741ffbe0e3555ff0f34", func := "loop.example/g01198/laws.FnRatesChanged", spec := "fnRatesChanged", unfollowed := true, recurses := true, apart := false, narrowed := true }
def FnRatesChangedUptoSaid : Prop := fnRatesChangedUptoRow.holds Try.pinned (OpenSpec.upto fnRatesChangedSpec)

/-- 'laws.FnStepsAdapt', WHERE WHAT IT READS IS OF BULK AT MOST 1048576: true; the input reads as it did. -/
def fnStepsAdaptUptoRow : OpenClaim := { program := "ytjplcongellcmaa", sum := "dac7eaaff8c2d20103057f0d64bf3721516bc172fbdda741ffbe0e3555ff0f34", func := "loop.example/g01198/laws.FnStepsAdapt", spec := "fnStepsAdapt", unfollowed := true, recurses := true, apart := false, narrowed := true }
def FnStepsAdaptUptoSaid : Prop := fnStepsAdaptUptoRow.holds Try.pinned (OpenSpec.upto fnStepsAdaptSpec)

/-- 'laws.FnFiltersInWords', WHERE WHAT IT READS IS OF BULK AT MOST 1048576: true; the input reads as it did. -/
def fnFiltersInWordsUptoRow : OpenClaim := { program := "ytjplcongellcmaa", sum := "dac7eaaff8c2d20103057f0d64bf3721516bc172fbdda741ffbe0e3555ff0f34", func := "loop.example/g01198/laws.FnFiltersInWords", spec := "fnFiltersInWords", unfollowed := true, recurses := true, apart := false, narrowed := true }
def FnFiltersInWordsUptoSaid : Prop := fnFiltersInWordsUptoRow.holds Try.pinned (OpenSpec.upto fnFiltersInWordsSpec)

/-- 'laws.FnWeightsMultiply', WHERE WHAT IT READS IS OF BULK AT MOST 1048576: true; the input reads as it did. -/
def fnWeightsMultiplyUptoRow : OpenClaim := { program := "ytjplcongellcmaa", sum := "dac7eaaff8c2d20103057f0d64bf3721516bc172fbdda741ffbe0e3555ff0f34", func := "loop.example/g01198/laws.FnWeightsMultiply", spec := "fnWeightsMultiply", unfollowed := true, recurses := true, apart := false, narrowed := true }
def FnWeightsMultiplyUptoSaid : Prop := fnWeightsMultiplyUptoRow.holds Try.pinned (OpenSpec.upto fnWeightsMultiplySpec)

/-- 'laws.FnFirstRuns', WHERE WHAT IT READS IS OF BULK AT MOST 1048576: true; the input reads as it did. -/
def fnFirstRunsUptoRow : OpenClaim := { program := "ytjplcongellcmaa", sum := "dac7eaaff8c2d20103057f0d64bf3721516bc172fbdda741ffbe0e3555ff0f34", func := "loop.example/g01198/laws.FnFirstRuns", spec := "fnFirstRuns", unfollowed := true, recurses := true, apart := false, narrowed := true }
def FnFirstRunsUptoSaid : Prop := fnFirstRunsUptoRow.holds Try.pinned (OpenSpec.upto fnFirstRunsSpec)

/-- 'laws.FnFirstCycles', WHERE WHAT IT READS IS OF BULK AT MOST 1048576: true; the input reads as it did. -/
def fnFirstCyclesUptoRow : OpenClaim := { program := "ytjplcongellcmaa", sum := "dac7eaaff8c2d20103057f0d64bf3721516bc172fbdda741ffbe0e3555ff0f34", func := "loop.example/g01198/laws.FnFirstCycles", spec := "fnFirstCycles", unfollowed := true, recurses := true, apart := false, narrowed := true }
def FnFirstCyclesUptoSaid : Prop := fnFirstCyclesUptoRow.holds Try.pinned (OpenSpec.upto fnFirstCyclesSpec)

/-- 'laws.FnCombsWrap', WHERE WHAT IT READS IS OF BULK AT MOST 1048576: true; the input reads as it did. -/
def fnCombsWrapUptoRow : OpenClaim := { program := "ytjplcongellcmaa", sum := "dac7eaaff8c2d20103057f0d64bf3721516bc172fbdda741ffbe0e3555ff0f34", func := "loop.example/g01198/laws.FnCombsWrap", spec := "fnCombsWrap", unfollowed := true, recurses := true, apart := false, narrowed := true }
def FnCombsWrapUptoSaid : Prop := fnCombsWrapUptoRow.holds Try.pinned (OpenSpec.upto fnCombsWrapSpec)

/-- 'laws.FnPairsRun', WHERE WHAT IT READS IS OF BULK AT MOST 1048576: true; the input reads as it did. -/
def fnPairsRunUptoRow : OpenClaim := { program := "ytjplcongellcmaa", sum := "dac7eaaff8c2d20103057f0d64bf3721516bc172fbdda741ffbe0e3555ff0f34", func := "loop.example/g01198/laws.FnPairsRun", spec := "fnPairsRun", unfollowed := true, recurses := true, apart := false, narrowed := true }
def FnPairsRunUptoSaid : Prop := fnPairsRunUptoRow.holds Try.pinned (OpenSpec.upto fnPairsRunSpec)

/-- 'laws.FnPhasesWork', WHERE WHAT IT READS IS OF BULK AT MOST 1048576: true; the input reads as it did. -/
def fnPhasesWorkUptoRow : OpenClaim := { program := "ytjplcongellcmaa", sum := "dac7eaaff8c2d20103057f0d64bf3721516bc172fbdda741ffbe0e3555ff0f34", func := "loop.example/g01198/laws.FnPhasesWork", spec := "fnPhasesWork", unfollowed := true, recurses := true, apart := false, narrowed := true }
def FnPhasesWorkUptoSaid : Prop := fnPhasesWorkUptoRow.holds Try.pinned (OpenSpec.upto fnPhasesWorkSpec)

/-- 'laws.FnSumsUndone', WHERE WHAT IT READS IS OF BULK AT MOST 1048576: true; the input reads as it did. -/
def fnSumsUndoneUptoRow : OpenClaim := { program := "ytjplcongellcmaa", sum := "dac7eaaff8c2d20103057f0d64bf3721516bc172fbdda741ffbe0e3555ff0f34", func := "loop.example/g01198/laws.FnSumsUndone", spec := "fnSumsUndone", unfollowed := true, recurses := true, apart := false, narrowed := true }
def FnSumsUndoneUptoSaid : Prop := fnSumsUndoneUptoRow.holds Try.pinned (OpenSpec.upto fnSumsUndoneSpec)

end Rows
end Go.Proofs.Ytjplcongellcmaa
