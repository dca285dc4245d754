/-
  NARROWER THAN 'FOR EVERY INPUT', by the rows' own cells (each row's printed sentence says how): FnExactToneOfPart: laid · FnExactFourTone: laid · FnExactSixTone: laid · FnExactFourPowers: laid · FnExactSixPowers: laid · FnExactStrongestPart: laid.
  DERIVED. THE GIVEN ROWS OF THIS SEAT. 6 by the template 'for every input the law returns true; each argument reads behind the call as it read before'; 0 by the template 'total and deterministic' (their statements: YtfjhlehaeephmaaDoorTotals.lean).
  GIVEN WITH THE SEED: the statements are not yours to turn. If you find one false, say at which input.
  Laid BY PROGRAM, IN A SANDBOX (cutbox-rows.mjs): the forced cells as the released guide's own fill.sh prints them over the translation 574b05664696219f… (all of the seat's roots in one cut). By AI agents, Wed Nov 11 2026. No macro, syntax, notation, axiom, sorry.
-/
import Derived.Test.YtfjhlehaeephmaaDoorChecked
import GoSem.Claim
import GoSem.ClaimJoined
import GoSem.ClaimMapViews
import Derived.JoinedTies
import Derived.KernelRfl
namespace Go.Proofs.YtfjhlehaeephmaaDoor
/- THE CELL 'sum', in the pinned program and in every row, IS THE sha256 OF THE DUMP (.gsa) THAT YtfjhlehaeephmaaDoorProg.lean LOADS. Nothing in Lean hashes anything: it is a label: what it is worth is what the hold of that sum in a sandbox is worth. -/
noncomputable def Tryd.pinned : Pinned := { name := "ytfjhlehaeephmaadoor", sum := "574b05664696219fbf78229412d792c088bb42fe75706230ccf3e8c2ca0cfb94", checked := Tryd.checked }
namespace Rows
def none {H : Type} : Left H := { results := [], args := [] }

/- WHAT THE LISTED PACKAGE-LEVEL VARIABLES READ AS WHEN THE CALL BEGINS. Each datum BY PROGRAM (the guide's laid-datum.mjs) off the statement by which the dump's own 'gosem.cut.vars' lays the variable. In a bare row this is a premise. The card (YtfjhlehaeephmaaDoorCards.lean) ties it to the program's text. -/
def laid_loop_example_g01198_impl_fourTurns {H : Type} : DataW H := .agg [.agg [.lit (.int .i64 1), .lit (.int .i64 0)], .agg [.lit (.int .i64 0), .lit (.int .i64 1)], .agg [.lit (.int .i64 (-1)), .lit (.int .i64 0)], .agg [.lit (.int .i64 0), .lit (.int .i64 (-1))]]
def laid_loop_example_g01198_impl_sixTurns {H : Type} : DataW H := .agg [.agg [.lit (.int .i64 1), .lit (.int .i64 0)], .agg [.lit (.int .i64 0), .lit (.int .i64 1)], .agg [.lit (.int .i64 (-1)), .lit (.int .i64 1)], .agg [.lit (.int .i64 (-1)), .lit (.int .i64 0)], .agg [.lit (.int .i64 0), .lit (.int .i64 (-1))], .agg [.lit (.int .i64 1), .lit (.int .i64 (-1))]]

/-- 'laws.FnExactToneOfPart': WHATEVER THE INPUT: true; the input reads as it did. -/
def fnExactToneOfPartSpec : ChangeSpec := { name := "fnExactToneOfPart", vars := ["loop.example/g01198/impl.fourTurns", "loop.example/g01198/impl.sixTurns"], fn := fun _ => fun
  | [d1, d2, d3, d4, g1, g2] => { results := [.lit (.bool true)], args := [d1, d2, d3, d4], vars := [g1, g2] }
  | _ => none }
def fnExactToneOfPartRow : OpenClaim := { program := "ytfjhlehaeephmaadoor", sum := "574b05664696219fbf78229412d792c088bb42fe75706230ccf3e8c2ca0cfb94", func := "loop.example/g01198/laws.FnExactToneOfPart", spec := "fnExactToneOfPart", unfollowed := true, recurses := true, named := ["loop.example/g01198/impl.fourTurns", "loop.example/g01198/impl.sixTurns"], apart := false, laid := [("loop.example/g01198/impl.fourTurns", laid_loop_example_g01198_impl_fourTurns), ("loop.example/g01198/impl.sixTurns", laid_loop_example_g01198_impl_sixTurns)] }
def FnExactToneOfPartSaid : Prop := fnExactToneOfPartRow.holds Tryd.pinned (OpenSpec.ofChange fnExactToneOfPartSpec)

/-- ITS FALSE NEIGHBOUR: 'it returns false'. Refute it at one input. -/
def fnExactToneOfPartWrong : ChangeSpec := { name := "fnExactToneOfPart", vars := ["loop.example/g01198/impl.fourTurns", "loop.example/g01198/impl.sixTurns"], fn := fun _ => fun
  | [d1, d2, d3, d4, g1, g2] => { results := [.lit (.bool false)], args := [d1, d2, d3, d4], vars := [g1, g2] }
  | _ => none }
def FnExactToneOfPartWrongFalsely : Prop := fnExactToneOfPartRow.holds Tryd.pinned (OpenSpec.ofChange fnExactToneOfPartWrong)

/-- 'laws.FnExactFourTone': WHATEVER THE INPUT: true; the input reads as it did. -/
def fnExactFourToneSpec : ChangeSpec := { name := "fnExactFourTone", vars := ["loop.example/g01198/impl.fourTurns", "loop.example/g01198/impl.sixTurns"], fn := fun _ => fun
  | [d1, d2, g1, g2] => { results := [.lit (.bool true)], args := [d1, d2], vars := [g1, g2] }
  | _ => none }
def fnExactFourToneRow : OpenClaim := { program := "ytfjhlehaeephmaadoor", sum := "574b05664696219fbf78229412d792c088bb42fe75706230ccf3e8c2ca0cfb94", func := "loop.example/g01198/laws.FnExactFourTone", spec := "fnExactFourTone", unfollowed := true, recurses := true, named := ["loop.example/g01198/impl.fourTurns", "loop.example/g01198/impl.sixTurns"], apart := false, laid := [("loop.example/g01198/impl.fourTurns", laid_loop_example_g01198_impl_fourTurns), ("loop.example/g01198/impl.sixTurns", laid_loop_example_g01198_impl_sixTurns)] }
def FnExactFourToneSaid : Prop := fnExactFourToneRow.holds Tryd.pinned (OpenSpec.ofChange fnExactFourToneSpec)

/-- ITS FALSE NEIGHBOUR: 'it returns false'. Refute it at one input. -/
def fnExactFourToneWrong : ChangeSpec := { name := "fnExactFourTone", vars := ["loop.example/g01198/impl.fourTurns", "loop.example/g01198/impl.sixTurns"], fn := fun _ => fun
  | [d1, d2, g1, g2] => { results := [.lit (.bool false)], args := [d1, d2], vars := [g1, g2] }
  | _ => none }
def FnExactFourToneWrongFalsely : Prop := fnExactFourToneRow.holds Tryd.pinned (OpenSpec.ofChange fnExactFourToneWrong)

/-- 'laws.FnExactSixTone': WHATEVER THE INPUT: true; the input reads as it did. -/
def fnExactSixToneSpec : ChangeSpec := { name := "fnExactSixTone", vars := ["loop.example/g01198/impl.fourTurns", "loop.example/g01198/impl.sixTurns"], fn := fun _ => fun
  | [d1, d2, g1, g2] => { results := [.lit (.bool true)], args := [d1, d2], vars := [g1, g2] }
  | _ => none }
def fnExactSixToneRow : OpenClaim := { program := "ytfjhlehaeephmaadoor", sum := "574b05664696219fbf78229412d792c088bb42fe75706230ccf3e8c2ca0cfb94", func := "loop.example/g01198/laws.FnExactSixTone", spec := "fnExactSixTone", unfollowed := true, recurses := true, named := ["loop.example/g01198/impl.fourTurns", "loop.example/g01198/impl.sixTurns"], apart := false, laid := [("loop.example/g01198/impl.fourTurns", laid_loop_example_g01198_impl_fourTurns), ("loop.example/g01198/impl.sixTurns", laid_loop_example_g01198_impl_sixTurns)] }
def FnExactSixToneSaid : Prop := fnExactSixToneRow.holds Tryd.pinned (OpenSpec.ofChange fnExactSixToneSpec)

/-- ITS FALSE NEIGHBOUR: 'it returns false'. Refute it at one input. -/
def fnExactSixToneWrong : ChangeSpec := { name := "fnExactSixTone", vars := ["loop.example/g01198/impl.fourTurns", "loop.example/g01198/impl.sixTurns"], fn := fun _ => fun
  | [d1, d2, g1, g2] => { results := [.lit (.bool false)], args := [d1, d2], vars := [g1, g2] }
  | _ => none }
def FnExactSixToneWrongFalsely : Prop := fnExactSixToneRow.holds Tryd.pinned (OpenSpec.ofChange fnExactSixToneWrong)

/-- 'laws.FnExactFourPowers': WHATEVER THE INPUT: true; the input reads as it did. -/
def fnExactFourPowersSpec : ChangeSpec := { name := "fnExactFourPowers", vars := ["loop.example/g01198/impl.fourTurns", "loop.example/g01198/impl.sixTurns"], fn := fun _ => fun
  | [d, g1, g2] => { results := [.lit (.bool true)], args := [d], vars := [g1, g2] }
  | _ => none }
def fnExactFourPowersRow : OpenClaim := { program := "ytfjhlehaeephmaadoor", sum := "574b05664696219fbf78229412d792c088bb42fe75706230ccf3e8c2ca0cfb94", func := "loop.example/g01198/laws.FnExactFourPowers", spec := "fnExactFourPowers", unfollowed := true, recurses := true, named := ["loop.example/g01198/impl.fourTurns", "loop.example/g01198/impl.sixTurns"], apart := false, laid := [("loop.example/g01198/impl.fourTurns", laid_loop_example_g01198_impl_fourTurns), ("loop.example/g01198/impl.sixTurns", laid_loop_example_g01198_impl_sixTurns)] }
def FnExactFourPowersSaid : Prop := fnExactFourPowersRow.holds Tryd.pinned (OpenSpec.ofChange fnExactFourPowersSpec)

/-- ITS FALSE NEIGHBOUR: 'it returns false'. Refute it at one input. -/
def fnExactFourPowersWrong : ChangeSpec := { name := "fnExactFourPowers", vars := ["loop.example/g01198/impl.fourTurns", "loop.example/g01198/impl.sixTurns"], fn := fun _ => fun
  | [d, g1, g2] => { results := [.lit (.bool false)], args := [d], vars := [g1, g2] }
  | _ => none }
def FnExactFourPowersWrongFalsely : Prop := fnExactFourPowersRow.holds Tryd.pinned (OpenSpec.ofChange fnExactFourPowersWrong)

/-- 'laws.FnExactSixPowers': WHATEVER THE INPUT: true; the input reads as it did. -/
def fnExactSixPowersSpec : ChangeSpec := { name := "fnExactSixPowers", vars := ["loop.example/g01198/impl.fourTurns", "loop.example/g01198/impl.sixTurns"], fn := fun _ => fun
  | [d, g1, g2] => { results := [.lit (.bool true)], args := [d], vars := [g1, g2] }
  | _ => none }
def fnExactSixPowersRow : OpenClaim := { program := "ytfjhlehaeephmaadoor", sum := "574b05664696219fbf78229412d792c088bb42fe75706230ccf3e8c2ca0cfb94", func := "loop.example/g01198/laws.FnExactSixPowers", spec := "fnExactSixPowers", unfollowed := true, recurses := true, named := ["loop.example/g01198/impl.fourTurns", "loop.example/g01198/impl.sixTurns"], apart := false, laid := [("loop.example/g01198/impl.fourTurns", laid_loop_example_g01198_impl_fourTurns), ("loop.example/g01198/impl.sixTurns", laid_loop_example_g01198_impl_sixTurns)] }
def FnExactSixPowersSaid : Prop := fnExactSixPowersRow.holds Tryd.pinned (OpenSpec.ofChange fnExactSixPowersSpec)

/-- ITS FALSE NEIGHBOUR: 'it returns false'. Refute it at one input. -/
def fnExactSixPowersWrong : ChangeSpec := { name := "fnExactSixPowers", vars := ["loop.example/g01198/impl.fourTurns", "loop.example/g01198/impl.sixTurns"], fn := fun _ => fun
  | [d, g1, g2] => { results := [.lit (.bool false)], args := [d], vars := [g1, g2] }
  | _ => none }
def FnExactSixPowersWrongFalsely : Prop := fnExactSixPowersRow.holds Tryd.pinned (OpenSpec.ofChange fnExactSixPowersWrong)

/-- 'laws.FnExactStrongestPart': WHATEVER THE INPUT: true; the input reads as it did. -/
def fnExactStrongestPartSpec : ChangeSpec := { name := "fnExactStrongestPart", vars := ["loop.example/g01198/impl.fourTurns", "loop.example/g01198/impl.sixTurns"], fn := fun _ => fun
  | [d1, d2, g1, g2] => { results := [.lit (.bool true)], args := [d1, d2], vars := [g1, g2] }
  | _ => none }
def fnExactStrongestPartRow : OpenClaim := { program := "ytfjhlehaeephmaadoor", sum := "574b05664696219fbf78229412d792c088bb42fe75706230ccf3e8c2ca0cfb94", func := "loop.example/g01198/laws.FnExactStrongestPart", spec := "fnExactStrongestPart", unfollowed := true, recurses := true, named := ["loop.example/g01198/impl.fourTurns", "loop.example/g01198/impl.sixTurns"], apart := false, laid := [("loop.example/g01198/impl.fourTurns", laid_loop_example_g01198_impl_fourTurns), ("loop.example/g01198/impl.sixTurns", laid_loop_example_g01198_impl_sixTurns)] }
def FnExactStrongestPartSaid : Prop := fnExactStrongestPartRow.holds Tryd.pinned (OpenSpec.ofChange fnExactStrongestPartSpec)

/-- ITS FALSE NEIGHBOUR: 'it returns false'. Refute it at one input. -/
def fnExactStrongestPartWrong : ChangeSpec := { name := "fnExactStrongestPart", vars := ["loop.example/g01198/impl.fourTurns", "loop.example/g01198/impl.sixTurns"], fn := fun _ => fun
  | [d1, d2, g1, g2] => { results := [.lit (.bool false)], args := [d1, d2], vars := [g1, g2] }
  | _ => none }
def FnExactStrongestPartWrongFalsely : Prop := fnExactStrongestPartRow.holds Tryd.pinned (OpenSpec.ofChange fnExactStrongestPartWrong)

/- THE SECOND FORM. 'bulk': how many values and letters a reading holds, each counted each time it is reached (what is shared counts as often as it is met; a slice's spare places count too). A statement '..UptoSaid' is the law's where the arguments, and the package variables that the reading takes, are together of bulk at most 1048576: NARROWER than '..Said'. Prove '..Said' where nothing that the law and all that it calls make is longer than what came in: it says more and counts as full. Else prove '..UptoSaid'. A law counts once. -/
mutual
def uptoBulk {H : Type} : DataW H → Nat
  | .lit (.string bytes) => bytes.length + 1
  | .lit _ => 1
  | .nil => 1
  | .ptr d => uptoBulk d + 1
  | .slice elems spare => uptoBulkAll elems + uptoBulkAll spare + 1
  | .agg parts => uptoBulkAll parts + 1
  | .iface _ d => uptoBulk d + 1
  | .map entries => uptoBulkEntries entries + 1
  | .held _ => 1
def uptoBulkAll {H : Type} : List (DataW H) → Nat
  | [] => 0
  | d :: r => uptoBulk d + uptoBulkAll r
def uptoBulkEntries {H : Type} : List (Lit × DataW H) → Nat
  | [] => 0
  | x :: r => uptoBulkEntry x + uptoBulkEntries r
def uptoBulkEntry {H : Type} : Lit × DataW H → Nat
  | (.string bytes, d) => bytes.length + uptoBulk d + 1
  | (_, d) => uptoBulk d + 1
 end
def uptoSmall : (H : Type) → List (DataW H) → Bool := fun _ ds => decide (uptoBulkAll ds ≤ 1048576)
def OpenSpec.upto (s : _root_.Go.ChangeSpec) : _root_.Go.OpenSpec := { _root_.Go.OpenSpec.ofChange s with cond := some uptoSmall }

/-- 'laws.FnExactToneOfPart', WHERE WHAT IT READS IS OF BULK AT MOST 1048576: true; the input reads as it did. -/
def fnExactToneOfPartUptoRow : OpenClaim := { program := "ytfjhlehaeephmaadoor", sum := "574b05664696219fbf78229412d792c088bb42fe75706230ccf3e8c2ca0cfb94", func := "loop.example/g01198/laws.FnExactToneOfPart", spec := "fnExactToneOfPart", unfollowed := true, recurses := true, named := ["loop.example/g01198/impl.fourTurns", "loop.example/g01198/impl.sixTurns"], apart := false, laid := [("loop.example/g01198/impl.fourTurns", laid_loop_example_g01198_impl_fourTurns), ("loop.example/g01198/impl.sixTurns", laid_loop_example_g01198_impl_sixTurns)], narrowed := true }
def FnExactToneOfPartUptoSaid : Prop := fnExactToneOfPartUptoRow.holds Tryd.pinned (OpenSpec.upto fnExactToneOfPartSpec)

/-- 'laws.FnExactFourTone', WHERE WHAT IT READS IS OF BULK AT MOST 1048576: true; the input reads as it did. -/
def fnExactFourToneUptoRow : OpenClaim := { program := "ytfjhlehaeephmaadoor", sum := "574b05664696219fbf78229412d792c088bb42fe75706230ccf3e8c2ca0cfb94", func := "loop.example/g01198/laws.FnExactFourTone", spec := "fnExactFourTone", unfollowed := true, recurses := true, named := ["loop.example/g01198/impl.fourTurns", "loop.example/g01198/impl.sixTurns"], apart := false, laid := [("loop.example/g01198/impl.fourTurns", laid_loop_example_g01198_impl_fourTurns), ("loop.example/g01198/impl.sixTurns", laid_loop_example_g01198_impl_sixTurns)], narrowed := true }
def FnExactFourToneUptoSaid : Prop := fnExactFourToneUptoRow.holds Tryd.pinned (OpenSpec.upto fnExactFourToneSpec)

/-- 'laws.FnExactSixTone', WHERE WHAT IT READS IS OF BULK AT MOST 1048576: true; the input reads as it did. -/
def fnExactSixToneUptoRow : OpenClaim := { program := "ytfjhlehaeephmaadoor", sum := "574b05664696219fbf78229412d792c088bb42fe75706230ccf3e8c2ca0cfb94", func := "loop.example/g01198/laws.FnExactSixTone", spec := "fnExactSixTone", unfollowed := true, recurses := true, named := ["loop.example/g01198/impl.fourTurns", "loop.example/g01198/impl.sixTurns"], apart := false, laid := [("loop.example/g01198/impl.fourTurns", laid_loop_example_g01198_impl_fourTurns), ("loop.example/g01198/impl.sixTurns", laid_loop_example_g01198_impl_sixTurns)], narrowed := true }
def FnExactSixToneUptoSaid : Prop := fnExactSixToneUptoRow.holds Tryd.pinned (OpenSpec.upto fnExactSixToneSpec)

/-- 'laws.FnExactFourPowers', WHERE WHAT IT READS IS OF BULK AT MOST 1048576: true; the input reads as it did. -/
def fnExactFourPowersUptoRow : OpenClaim := { program := "ytfjhlehaeephmaadoor", sum := "574b05664696219fbf78229412d792c088bb42fe75706230ccf3e8c2ca0cfb94", func := "loop.example/g01198/laws.FnExactFourPowers", spec := "fnExactFourPowers", unfollowed := true, recurses := true, named := ["loop.example/g01198/impl.fourTurns", "loop.example/g01198/impl.sixTurns"], apart := false, laid := [("loop.example/g01198/impl.fourTurns", laid_loop_example_g01198_impl_fourTurns), ("loop.example/g01198/impl.sixTurns", laid_loop_example_g01198_impl_sixTurns)], narrowed := true }
def FnExactFourPowersUptoSaid : Prop := fnExactFourPowersUptoRow.holds Tryd.pinned (OpenSpec.upto fnExactFourPowersSpec)

/-- 'laws.FnExactSixPowers', WHERE WHAT IT READS IS OF BULK AT MOST 1048576: true; the input reads as it did. -/
def fnExactSixPowersUptoRow : OpenClaim := { program := "ytfjhlehaeephmaadoor", sum := "574b05664696219fbf78229412d792c088bb42fe75706230ccf3e8c2ca0cfb94", func := "loop.example/g01198/laws.FnExactSixPowers", spec := "fnExactSixPowers", unfollowed := true, recurses := true, named := ["loop.example/g01198/impl.fourTurns", "loop.example/g01198/impl.sixTurns"], apart := false, laid := [("loop.example/g01198/impl.fourTurns", laid_loop_example_g01198_impl_fourTurns), ("loop.example/g01198/impl.sixTurns", laid_loop_example_g01198_impl_sixTurns)], narrowed := true }
def FnExactSixPowersUptoSaid : Prop := fnExactSixPowersUptoRow.holds Tryd.pinned (OpenSpec.upto fnExactSixPowersSpec)

/-- 'laws.FnExactStrongestPart', WHERE WHAT IT READS IS OF BULK AT MOST 1048576: true; the input reads as it did. -/
def fnExactStrongestPartUptoRow : OpenClaim := { program := "ytfjhlehaeephmaadoor", sum := "574b05664696219fbf78229412d792c088bb42fe75706230ccf3e8c2ca0cfb94", func := "loop.example/g01198/laws.FnExactStrongestPart", spec := "fnExactStrongestPart", unfollowed := true, recurses := true, named := ["loop.example/g01198/impl.fourTurns", "loop.example/g01198/impl.sixTurns"], apart := false, laid := [("loop.example/g01198/impl.fourTurns", laid_loop_example_g01198_impl_fourTurns), ("loop.example/g01198/impl.sixTurns", laid_loop_example_g01198_impl_sixTurns)], narrowed := true }
def FnExactStrongestPartUptoSaid : Prop := fnExactStrongestPartUptoRow.holds Tryd.pinned (OpenSpec.upto fnExactStrongestPartSpec)

end Rows
end Go.Proofs.YtfjhlehaeephmaaDoor
