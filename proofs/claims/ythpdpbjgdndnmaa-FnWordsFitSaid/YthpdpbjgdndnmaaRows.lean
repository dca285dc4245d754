/-
  No cell of these rows narrows 'for every input' (looked for: loops, veiled, ifaces, maps, wideKeys, modest, calm, conditions, laid).
  DERIVED. THE GIVEN ROWS OF THIS SEAT. 12 by the template 'for every input the law returns true; each argument reads behind the call as it read before'; 0 by the template 'total and deterministic' (their statements: YthpdpbjgdndnmaaTotals.lean).
  GIVEN WITH THE SEED: the statements are not yours to turn. If you find one false, say at which input.
  Laid BY PROGRAM, IN A SANDBOX (cutbox-rows.mjs): the forced cells as the released guide's own fill.sh prints them over the translation d52a8bad3077af33… (all of the seat's roots in one cut). By AI agents, Wed Nov 11 2026. No macro, syntax, notation, axiom, sorry.
-/
import Derived.Test.YthpdpbjgdndnmaaChecked
import GoSem.Claim
import GoSem.ClaimJoined
import GoSem.ClaimMapViews
import Derived.JoinedTies
import Derived.KernelRfl
namespace Go.Proofs.Ythpdpbjgdndnmaa
/- THE CELL 'sum', in the pinned program and in every row, IS THE sha256 OF THE DUMP (.gsa) THAT YthpdpbjgdndnmaaProg.lean LOADS. Nothing in Lean hashes anything: it is a label: what it is worth is what the hold of that sum in a sandbox is worth. -/
noncomputable def Try.pinned : Pinned := { name := "ythpdpbjgdndnmaa", sum := "d52a8bad3077af3391c5aad3feced56648d65820906dadd2e2aed26bbacc9842", checked := Try.checked }
namespace Rows
def none {H : Type} : Left H := { results := [], args := [] }

/-- 'laws.FnExactImpulseOf': WHATEVER THE INPUT: true; the input reads as it did. -/
def fnExactImpulseOfSpec : ChangeSpec := { name := "fnExactImpulseOf", fn := fun _ => fun
  | [d1, d2, d3] => { results := [.lit (.bool true)], args := [d1, d2, d3] }
  | _ => none }
def fnExactImpulseOfRow : OpenClaim := { program := "ythpdpbjgdndnmaa", sum := "d52a8bad3077af3391c5aad3feced56648d65820906dadd2e2aed26bbacc9842", func := "loop.example/g01198/laws.FnExactImpulseOf", spec := "fnExactImpulseOf", apart := false }
def FnExactImpulseOfSaid : Prop := fnExactImpulseOfRow.holds Try.pinned (OpenSpec.ofChange fnExactImpulseOfSpec)

/-- ITS FALSE NEIGHBOUR: 'it returns false'. Refute it at one input. -/
def fnExactImpulseOfWrong : ChangeSpec := { name := "fnExactImpulseOf", fn := fun _ => fun
  | [d1, d2, d3] => { results := [.lit (.bool false)], args := [d1, d2, d3] }
  | _ => none }
def FnExactImpulseOfWrongFalsely : Prop := fnExactImpulseOfRow.holds Try.pinned (OpenSpec.ofChange fnExactImpulseOfWrong)

/-- 'laws.FnExactGreatestGap': WHATEVER THE INPUT: true; the input reads as it did. -/
def fnExactGreatestGapSpec : ChangeSpec := { name := "fnExactGreatestGap", fn := fun _ => fun
  | [d1, d2] => { results := [.lit (.bool true)], args := [d1, d2] }
  | _ => none }
def fnExactGreatestGapRow : OpenClaim := { program := "ythpdpbjgdndnmaa", sum := "d52a8bad3077af3391c5aad3feced56648d65820906dadd2e2aed26bbacc9842", func := "loop.example/g01198/laws.FnExactGreatestGap", spec := "fnExactGreatestGap", unfollowed := true, recurses := true, apart := false }
def FnExactGreatestGapSaid : Prop := fnExactGreatestGapRow.holds Try.pinned (OpenSpec.ofChange fnExactGreatestGapSpec)

/-- ITS FALSE NEIGHBOUR: 'it returns false'. Refute it at one input. -/
def fnExactGreatestGapWrong : ChangeSpec := { name := "fnExactGreatestGap", fn := fun _ => fun
  | [d1, d2] => { results := [.lit (.bool false)], args := [d1, d2] }
  | _ => none }
def FnExactGreatestGapWrongFalsely : Prop := fnExactGreatestGapRow.holds Try.pinned (OpenSpec.ofChange fnExactGreatestGapWrong)

/-- 'laws.FnExactRunFirst': WHATEVER THE INPUT: true; the input reads as it did. -/
def fnExactRunFirstSpec : ChangeSpec := { name := "fnExactRunFirst", fn := fun _ => fun
  | [d1, d2, d3] => { results := [.lit (.bool true)], args := [d1, d2, d3] }
  | _ => none }
def fnExactRunFirstRow : OpenClaim := { program := "ythpdpbjgdndnmaa", sum := "d52a8bad3077af3391c5aad3feced56648d65820906dadd2e2aed26bbacc9842", func := "loop.example/g01198/laws.FnExactRunFirst", spec := "fnExactRunFirst", unfollowed := true, recurses := true, apart := false }
def FnExactRunFirstSaid : Prop := fnExactRunFirstRow.holds Try.pinned (OpenSpec.ofChange fnExactRunFirstSpec)

/-- ITS FALSE NEIGHBOUR: 'it returns false'. Refute it at one input. -/
def fnExactRunFirstWrong : ChangeSpec := { name := "fnExactRunFirst", fn := fun _ => fun
  | [d1, d2, d3] => { results := [.lit (.bool false)], args := [d1, d2, d3] }
  | _ => none }
def FnExactRunFirstWrongFalsely : Prop := fnExactRunFirstRow.holds Try.pinned (OpenSpec.ofChange fnExactRunFirstWrong)

/-- 'laws.FnWordsFit': WHATEVER THE INPUT: true; the input reads as it did. -/
def fnWordsFitSpec : ChangeSpec := { name := "fnWordsFit", fn := fun _ => fun
  | [d1, d2] => { results := [.lit (.bool true)], args := [d1, d2] }
  | _ => none }
def fnWordsFitRow : OpenClaim := { program := "ythpdpbjgdndnmaa", sum := "d52a8bad3077af3391c5aad3feced56648d65820906dadd2e2aed26bbacc9842", func := "loop.example/g01198/laws.FnWordsFit", spec := "fnWordsFit", apart := false }
def FnWordsFitSaid : Prop := fnWordsFitRow.holds Try.pinned (OpenSpec.ofChange fnWordsFitSpec)

/-- ITS FALSE NEIGHBOUR: 'it returns false'. Refute it at one input. -/
def fnWordsFitWrong : ChangeSpec := { name := "fnWordsFit", fn := fun _ => fun
  | [d1, d2] => { results := [.lit (.bool false)], args := [d1, d2] }
  | _ => none }
def FnWordsFitWrongFalsely : Prop := fnWordsFitRow.holds Try.pinned (OpenSpec.ofChange fnWordsFitWrong)

/-- 'laws.FnErrorsShaped': WHATEVER THE INPUT: true; the input reads as it did. -/
def fnErrorsShapedSpec : ChangeSpec := { name := "fnErrorsShaped", fn := fun _ => fun
  | [d1, d2] => { results := [.lit (.bool true)], args := [d1, d2] }
  | _ => none }
def fnErrorsShapedRow : OpenClaim := { program := "ythpdpbjgdndnmaa", sum := "d52a8bad3077af3391c5aad3feced56648d65820906dadd2e2aed26bbacc9842", func := "loop.example/g01198/laws.FnErrorsShaped", spec := "fnErrorsShaped", unfollowed := true, recurses := true, apart := false }
def FnErrorsShapedSaid : Prop := fnErrorsShapedRow.holds Try.pinned (OpenSpec.ofChange fnErrorsShapedSpec)

/-- ITS FALSE NEIGHBOUR: 'it returns false'. Refute it at one input. -/
def fnErrorsShapedWrong : ChangeSpec := { name := "fnErrorsShaped", fn := fun _ => fun
  | [d1, d2] => { results := [.lit (.bool false)], args := [d1, d2] }
  | _ => none }
def FnErrorsShapedWrongFalsely : Prop := fnErrorsShapedRow.holds Try.pinned (OpenSpec.ofChange fnErrorsShapedWrong)

/-- 'laws.FnRatesChanged': WHATEVER THE INPUT: true; the input reads as it did. -/
def fnRatesChangedSpec : ChangeSpec := { name := "fnRatesChanged", fn := fun _ => fun
  | [d1, d2] => { results := [.lit (.bool true)], args := [d1, d2] }
  | _ => none }
def fnRatesChangedRow : OpenClaim := { program := "ythpdpbjgdndnmaa", sum := "d52a8bad3077af3391c5aad3feced56648d65820906dadd2e2aed26bbacc9842", func := "loop.example/g01198/laws.FnRatesChanged", spec := "fnRatesChanged", unfollowed := true, recurses := true, apart := false }
def FnRatesChangedSaid : Prop := fnRatesChangedRow.holds Try.pinned (OpenSpec.ofChange fnRatesChangedSpec)

/-- ITS FALSE NEIGHBOUR: 'it returns false'. Refute it at one input. -/
def fnRatesChangedWrong : ChangeSpec := { name := "fnRatesChanged", fn := fun _ => fun
  | [d1, d2] => { results := [.lit (.bool false)], args := [d1, d2] }
  | _ => none }
def FnRatesChangedWrongFalsely : Prop := fnRatesChangedRow.holds Try.pinned (OpenSpec.ofChange fnRatesChangedWrong)

/-- 'laws.FnExactFirstChainFit': WHATEVER THE INPUT: true; the input reads as it did. -/
def fnExactFirstChainFitSpec : ChangeSpec := { name := "fnExactFirstChainFit", fn := fun _ => fun
  | [d1, d2] => { results := [.lit (.bool true)], args := [d1, d2] }
  | _ => none }
def fnExactFirstChainFitRow : OpenClaim := { program := "ythpdpbjgdndnmaa", sum := "d52a8bad3077af3391c5aad3feced56648d65820906dadd2e2aed26bbacc9842", func := "loop.example/g01198/laws.FnExactFirstChainFit", spec := "fnExactFirstChainFit", unfollowed := true, recurses := true, apart := false }
def FnExactFirstChainFitSaid : Prop := fnExactFirstChainFitRow.holds Try.pinned (OpenSpec.ofChange fnExactFirstChainFitSpec)

/-- ITS FALSE NEIGHBOUR: 'it returns false'. Refute it at one input. -/
def fnExactFirstChainFitWrong : ChangeSpec := { name := "fnExactFirstChainFit", fn := fun _ => fun
  | [d1, d2] => { results := [.lit (.bool false)], args := [d1, d2] }
  | _ => none }
def FnExactFirstChainFitWrongFalsely : Prop := fnExactFirstChainFitRow.holds Try.pinned (OpenSpec.ofChange fnExactFirstChainFitWrong)

/-- 'laws.FnExactRunChain': WHATEVER THE INPUT: true; the input reads as it did. -/
def fnExactRunChainSpec : ChangeSpec := { name := "fnExactRunChain", fn := fun _ => fun
  | [d1, d2] => { results := [.lit (.bool true)], args := [d1, d2] }
  | _ => none }
def fnExactRunChainRow : OpenClaim := { program := "ythpdpbjgdndnmaa", sum := "d52a8bad3077af3391c5aad3feced56648d65820906dadd2e2aed26bbacc9842", func := "loop.example/g01198/laws.FnExactRunChain", spec := "fnExactRunChain", unfollowed := true, recurses := true, apart := false }
def FnExactRunChainSaid : Prop := fnExactRunChainRow.holds Try.pinned (OpenSpec.ofChange fnExactRunChainSpec)

/-- ITS FALSE NEIGHBOUR: 'it returns false'. Refute it at one input. -/
def fnExactRunChainWrong : ChangeSpec := { name := "fnExactRunChain", fn := fun _ => fun
  | [d1, d2] => { results := [.lit (.bool false)], args := [d1, d2] }
  | _ => none }
def FnExactRunChainWrongFalsely : Prop := fnExactRunChainRow.holds Try.pinned (OpenSpec.ofChange fnExactRunChainWrong)

/-- 'laws.FnBitsKeepSums': WHATEVER THE INPUT: true; the input reads as it did. -/
def fnBitsKeepSumsSpec : ChangeSpec := { name := "fnBitsKeepSums", fn := fun _ => fun
  | [d1, d2] => { results := [.lit (.bool true)], args := [d1, d2] }
  | _ => none }
def fnBitsKeepSumsRow : OpenClaim := { program := "ythpdpbjgdndnmaa", sum := "d52a8bad3077af3391c5aad3feced56648d65820906dadd2e2aed26bbacc9842", func := "loop.example/g01198/laws.FnBitsKeepSums", spec := "fnBitsKeepSums", unfollowed := true, recurses := true, apart := false }
def FnBitsKeepSumsSaid : Prop := fnBitsKeepSumsRow.holds Try.pinned (OpenSpec.ofChange fnBitsKeepSumsSpec)

/-- ITS FALSE NEIGHBOUR: 'it returns false'. Refute it at one input. -/
def fnBitsKeepSumsWrong : ChangeSpec := { name := "fnBitsKeepSums", fn := fun _ => fun
  | [d1, d2] => { results := [.lit (.bool false)], args := [d1, d2] }
  | _ => none }
def FnBitsKeepSumsWrongFalsely : Prop := fnBitsKeepSumsRow.holds Try.pinned (OpenSpec.ofChange fnBitsKeepSumsWrong)

/-- 'laws.FnExactChainSignals': WHATEVER THE INPUT: true; the input reads as it did. -/
def fnExactChainSignalsSpec : ChangeSpec := { name := "fnExactChainSignals", fn := fun _ => fun
  | [d1, d2] => { results := [.lit (.bool true)], args := [d1, d2] }
  | _ => none }
def fnExactChainSignalsRow : OpenClaim := { program := "ythpdpbjgdndnmaa", sum := "d52a8bad3077af3391c5aad3feced56648d65820906dadd2e2aed26bbacc9842", func := "loop.example/g01198/laws.FnExactChainSignals", spec := "fnExactChainSignals", unfollowed := true, recurses := true, apart := false }
def FnExactChainSignalsSaid : Prop := fnExactChainSignalsRow.holds Try.pinned (OpenSpec.ofChange fnExactChainSignalsSpec)

/-- ITS FALSE NEIGHBOUR: 'it returns false'. Refute it at one input. -/
def fnExactChainSignalsWrong : ChangeSpec := { name := "fnExactChainSignals", fn := fun _ => fun
  | [d1, d2] => { results := [.lit (.bool false)], args := [d1, d2] }
  | _ => none }
def FnExactChainSignalsWrongFalsely : Prop := fnExactChainSignalsRow.holds Try.pinned (OpenSpec.ofChange fnExactChainSignalsWrong)

/-- 'laws.FnExactPeaksInside': WHATEVER THE INPUT: true; the input reads as it did. -/
def fnExactPeaksInsideSpec : ChangeSpec := { name := "fnExactPeaksInside", fn := fun _ => fun
  | [d1, d2] => { results := [.lit (.bool true)], args := [d1, d2] }
  | _ => none }
def fnExactPeaksInsideRow : OpenClaim := { program := "ythpdpbjgdndnmaa", sum := "d52a8bad3077af3391c5aad3feced56648d65820906dadd2e2aed26bbacc9842", func := "loop.example/g01198/laws.FnExactPeaksInside", spec := "fnExactPeaksInside", unfollowed := true, recurses := true, apart := false }
def FnExactPeaksInsideSaid : Prop := fnExactPeaksInsideRow.holds Try.pinned (OpenSpec.ofChange fnExactPeaksInsideSpec)

/-- ITS FALSE NEIGHBOUR: 'it returns false'. Refute it at one input. -/
def fnExactPeaksInsideWrong : ChangeSpec := { name := "fnExactPeaksInside", fn := fun _ => fun
  | [d1, d2] => { results := [.lit (.bool false)], args := [d1, d2] }
  | _ => none }
def FnExactPeaksInsideWrongFalsely : Prop := fnExactPeaksInsideRow.holds Try.pinned (OpenSpec.ofChange fnExactPeaksInsideWrong)

/-- 'laws.FnStepsAdapt': WHATEVER THE INPUT: true; the input reads as it did. -/
def fnStepsAdaptSpec : ChangeSpec := { name := "fnStepsAdapt", fn := fun _ => fun
  | [d1, d2] => { results := [.lit (.bool true)], args := [d1, d2] }
  | _ => none }
def fnStepsAdaptRow : OpenClaim := { program := "ythpdpbjgdndnmaa", sum := "d52a8bad3077af3391c5aad3feced56648d65820906dadd2e2aed26bbacc9842", func := "loop.example/g01198/laws.FnStepsAdapt", spec := "fnStepsAdapt", unfollowed := true, recurses := true, apart := false }
def FnStepsAdaptSaid : Prop := fnStepsAdaptRow.holds Try.pinned (OpenSpec.ofChange fnStepsAdaptSpec)

/-- ITS FALSE NEIGHBOUR: 'it returns false'. Refute it at one input. -/
def fnStepsAdaptWrong : ChangeSpec := { name := "fnStepsAdapt", fn := fun _ => fun
  | [d1, d2] => { results := [.lit (.bool false)], args := [d1, d2] }
  | _ => none }
def FnStepsAdaptWrongFalsely : Prop := fnStepsAdaptRow.holds Try.pinned (OpenSpec.ofChange fnStepsAdaptWrong)

/- THE SECOND FORM. 'bulk': how many values and letters a reading holds, each counted each time it is reached (what is shared counts as often as it is met; a slice's spare places count too). A statement '..UptoSaid' is the law's where the arguments, and the package variables that the reading takes, are together of bulk at most 1048576: NARROWER than '..Said'. Prove '..Said' where nothing that the law and all that it calls make is longer than what came in: it says more and counts as full. Else prove '..UptoSaid'. A law counts once. -/
mutual
def uptoBulk {H : Type} : DataW H → Nat
  | .lit (.string bytes) => bytes.length + 1
  | .lit _ => 1
  | .nil => 1
  | .ptr d => uptoBulk d + 1
  | .slice elems spare => uptoBulkAll elems + uptoBulkAll spare + 1
  | .agg parts => uptoBulkAll parts + 1
  | .iface _ d => uptoBulk d + 1
  | .map entries => uptoBulkEntries entries + 1
  | .held _ => 1
def uptoBulkAll {H : Type} : List (DataW H) → Nat
  | [] => 0
  | d :: r => uptoBulk d + uptoBulkAll r
def uptoBulkEntries {H : Type} : List (Lit × DataW H) → Nat
  | [] => 0
  | x :: r => uptoBulkEntry x + uptoBulkEntries r
def uptoBulkEntry {H : Type} : Lit × DataW H → Nat
  | (.string bytes, d) => bytes.length + uptoBulk d + 1
  | (_, d) => uptoBulk d + 1
 end
def uptoSmall : (H : Type) → List (DataW H) → Bool := fun _ ds => decide (uptoBulkAll ds ≤ 1048576)
def OpenSpec.upto (s : _root_.Go.ChangeSpec) : _root_.Go.OpenSpec := { _root_.Go.OpenSpec.ofChange s with cond := some uptoSmall }

/-- 'laws.FnExactImpulseOf', WHERE WHAT IT READS IS OF BULK AT MOST 1048576: true; the input reads as it did. -/
def fnExactImpulseOfUptoRow : OpenClaim := { program := "ythpdpbjgdndnmaa", sum := "d52a8bad3077af3391c5aad3feced56648d65820906dadd2e2aed26bbacc9842", func := "loop.example/g01198/laws.FnExactImpulseOf", spec := "fnExactImpulseOf", apart := false, narrowed := true }
def FnExactImpulseOfUptoSaid : Prop := fnExactImpulseOfUptoRow.holds Try.pinned (OpenSpec.upto fnExactImpulseOfSpec)

/-- 'laws.FnExactGreatestGap', WHERE WHAT IT READS IS OF BULK AT MOST 1048576: true; the input reads as it did. -/
def fnExactGreatestGapUptoRow : OpenClaim := { program := "ythpdpbjgdndnmaa", sum := "d52a8bad3077af3391c5aad3feced56648d65820906dadd2e2aed26bbacc9842", func := "loop.example/g01198/laws.FnExactGreatestGap", spec := "fnExactGreatestGap", unfollowed := true, recurses := true, apart := false, narrowed := true }
def FnExactGreatestGapUptoSaid : Prop := fnExactGreatestGapUptoRow.holds Try.pinned (OpenSpec.upto fnExactGreatestGapSpec)

/-- 'laws.FnExactRunFirst', WHERE WHAT IT READS IS OF BULK AT MOST 1048576: true; the input reads as it did. -/
def fnExactRunFirstUptoRow : OpenClaim := { program := "ythpdpbjgdndnmaa", sum := "d52a8bad3077af3391c5aad3feced56648d65820906dadd2e2aed26bbacc9842", func := "loop.example/g01198/laws.FnExactRunFirst", spec := "fnExactRunFirst", unfollowed := true, recurses := true, apart := false, narrowed := true }
def FnExactRunFirstUptoSaid : Prop := fnExactRunFirstUptoRow.holds Try.pinned (OpenSpec.upto fnExactRunFirstSpec)

/-- 'laws.FnWordsFit', WHERE WHAT IT READS IS OF BULK AT MOST 1048576: true; the input reads as it did. -/
def fnWordsFitUptoRow : OpenClaim := { program := "ythpdpbjgdndnmaa", sum := "d52a8bad3077af3391c5aad3feced56648d65820906dadd2e2aed26bbacc9842", func := "loop.example/g01198/laws.FnWordsFit", spec := "fnWordsFit", apart := false, narrowed := true }
def FnWordsFitUptoSaid : Prop := fnWordsFitUptoRow.holds Try.pinned (OpenSpec.upto fnWordsFitSpec)

/-- 'laws.FnErrorsShaped', WHERE WHAT IT READS IS OF BULK AT MOST 1048576: true; the input reads as it did. -/
def fnErrorsShapedUptoRow : OpenClaim := { program := "ythpdpbjgdndnmaa", sum := "d52a8bad3077af3391c5aad3feced56648d65820906dadd2e2aed26bbacc9842", func := "loop.example/g01198/laws.FnErrorsShaped", spec := "fnErrorsShaped", unfollowed := true, recurses := true, apart := false, narrowed := true }
def FnErrorsShapedUptoSaid : Prop := fnErrorsShapedUptoRow.holds Try.pinned (OpenSpec.upto fnErrorsShapedSpec)

/-- 'laws.FnRatesChanged', WHERE WHAT IT READS IS OF BULK AT MOST 1048576: true; the input reads as it did. -/
def fnRatesChangedUptoRow : OpenClaim := { program := "ythpdpbjgdndnmaa", sum := "d52a8bad3077af3391c5aad3feced56648d65820906dadd2e2aed26bbacc9842", func := "loop.example/g01198/laws.FnRatesChanged", spec := "fnRatesChanged", unfollowed := true, recurses := true, apart := false, narrowed := true }
def FnRatesChangedUptoSaid : Prop := fnRatesChangedUptoRow.holds Try.pinned (OpenSpec.upto fnRatesChangedSpec)

/-- 'laws.FnExactFirstChainFit', WHERE WHAT IT READS IS OF BULK AT MOST 1048576: true; the input reads as it did. -/
def fnExactFirstChainFitUptoRow : OpenClaim := { program := "ythpdpbjgdndnmaa", sum := "d52a8bad3077af3391c5aad3feced56648d65820906dadd2e2aed26bbacc9842", func := "loop.example/g01198/laws.FnExactFirstChainFit", spec := "fnExactFirstChainFit", unfollowed := true, recurses := true, apart := false, narrowed := true }
def FnExactFirstChainFitUptoSaid : Prop := fnExactFirstChainFitUptoRow.holds Try.pinned (OpenSpec.upto fnExactFirstChainFitSpec)

/-- 'laws.FnExactRunChain', WHERE WHAT IT READS IS OF BULK AT MOST 1048576: true; the input reads as it did. -/
def fnExactRunChainUptoRow : OpenClaim := { program := "ythpdpbjgdndnmaa", sum := "d52a8bad3077af3391c5aad3feced56648d65820906dadd2e2aed26bbacc9842", func := "loop.example/g01198/laws.FnExactRunChain", spec := "fnExactRunChain", unfollowed := true, recurses := true, apart := false, narrowed := true }
def FnExactRunChainUptoSaid : Prop := fnExactRunChainUptoRow.holds Try.pinned (OpenSpec.upto fnExactRunChainSpec)

/-- 'laws.FnBitsKeepSums', WHERE WHAT IT READS IS OF BULK AT MOST 1048576: true; the input reads as it did. -/
def fnBitsKeepSumsUptoRow : OpenClaim := { program := "ythpdpbjgdndnmaa", sum := "d52a8bad3077af3391c5aad3feced56648d65820906dadd2e2aed26bbacc9842", func := "loop.example/g01198/laws.FnBitsKeepSums", spec := "fnBitsKeepSums", unfollowed := true, recurses := true, apart := false, narrowed := true }
def FnBitsKeepSumsUptoSaid : Prop := fnBitsKeepSumsUptoRow.holds Try.pinned (OpenSpec.upto fnBitsKeepSumsSpec)

/-- 'laws.FnExactChainSignals', WHERE WHAT IT READS IS OF BULK AT MOST 1048576: true; the input reads as it did. -/
def fnExactChainSignalsUptoRow : OpenClaim := { program := "ythpdpbjgdndnmaa", sum := "d52a8bad3077af3391c5aad3feced56648d65820906dadd2e2aed26bbacc9842", func := "loop.example/g01198/laws.FnExactChainSignals", spec := "fnExactChainSignals", unfollowed := true, recurses := true, apart := false, narrowed := true }
def FnExactChainSignalsUptoSaid : Prop := fnExactChainSignalsUptoRow.holds Try.pinned (OpenSpec.upto fnExactChainSignalsSpec)

/-- 'laws.FnExactPeaksInside', WHERE WHAT IT READS IS OF BULK AT MOST 1048576: true; the input reads as it did. -/
def fnExactPeaksInsideUptoRow : OpenClaim := { program := "ythpdpbjgdndnmaa", sum := "d52a8bad3077af3391c5aad3feced56648d65820906dadd2e2aed26bbacc9842", func := "loop.example/g01198/laws.FnExactPeaksInside", spec := "fnExactPeaksInside", unfollowed := true, recurses := true, apart := false, narrowed := true }
def FnExactPeaksInsideUptoSaid : Prop := fnExactPeaksInsideUptoRow.holds Try.pinned (OpenSpec.upto fnExactPeaksInsideSpec)

/-- 'laws.FnStepsAdapt', WHERE WHAT IT READS IS OF BULK AT MOST 1048576: true; the input reads as it did. -/
def fnStepsAdaptUptoRow : OpenClaim := { program := "ythpdpbjgdndnmaa", sum := "d52a8bad3077af3391c5aad3feced56648d65820906dadd2e2aed26bbacc9842", func := "loop.example/g01198/laws.FnStepsAdapt", spec := "fnStepsAdapt", unfollowed := true, recurses := true, apart := false, narrowed := true }
def FnStepsAdaptUptoSaid : Prop := fnStepsAdaptUptoRow.holds Try.pinned (OpenSpec.upto fnStepsAdaptSpec)

end Rows
end Go.Proofs.Ythpdpbjgdndnmaa
