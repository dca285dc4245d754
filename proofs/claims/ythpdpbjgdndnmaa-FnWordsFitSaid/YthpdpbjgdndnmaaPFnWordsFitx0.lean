/- What each Go function that the statement FnWordsFit reaches answers, proved call by call. No condition beyond those that the theorems print. (Written by wip/tools/xprint.py of this repo, over the kit's print.) -/
import Derived.Test.YthpdpbjgdndnmaaProg
import Derived.Below
import Derived.Deep.Draws
import Derived.Deep.AppendLies
import Derived.Maps.AppendAt
import Derived.OwnWalk
import Derived.Laws.BytesArg
import Derived.Laws.MakeOwn
import Derived.Laws.OwnMore
import Derived.Deep.OwnRows
import Derived.Tactics
import Derived.Lib.ConvBytes
import Derived.Laws.Slices
import Derived.WalkKit
import Derived.KernelRfl
import Derived.RowKit3
import Derived.Deep.LoopGhost
import Derived.Deep.QuietTactic
import Derived.BigQuiet
import Derived.WideLaws
import Derived.Deep.DeepCutAuto
import Derived.Deep.CutBlock
import Derived.Deep.RegionHeld3
import Derived.Laws.Rows
import Derived.Lib.AppendStr
import Derived.ArgAppend
import Derived.Laws.IdiomCopy
import Derived.OrdersHeld
import Derived.Laws.BitsLemmas
import Derived.RowKit
import Derived.StillTailTactics
import Derived.Test.YthpdpbjgdndnmaaWWords
import Derived.Test.YthpdpbjgdndnmaaWLast
import Derived.Test.YthpdpbjgdndnmaaWTab
import Derived.Test.YthpdpbjgdndnmaaWFour
import Derived.Test.YthpdpbjgdndnmaaWQPut
import Derived.Test.YthpdpbjgdndnmaaWApart
import Derived.Test.YthpdpbjgdndnmaaWArr
import Derived.Test.YthpdpbjgdndnmaaWZeros
import Derived.Test.YthpdpbjgdndnmaaWFoot
import Derived.Test.YthpdpbjgdndnmaaWKept
import Derived.Test.YthpdpbjgdndnmaaWShare
import Derived.Test.YthpdpbjgdndnmaaWN
import Derived.Test.YthpdpbjgdndnmaaWFootNe
import Derived.Test.YthpdpbjgdndnmaaWAt
import Derived.Test.YthpdpbjgdndnmaaWEqStruct
import Derived.Test.YthpdpbjgdndnmaaWRepsOne
import Derived.Test.YthpdpbjgdndnmaaWInv
import Derived.Test.YthpdpbjgdndnmaaWInvWords
import Derived.Test.YthpdpbjgdndnmaaWGuard
import Derived.Test.YthpdpbjgdndnmaaWNEv
import Derived.Test.YthpdpbjgdndnmaaWMore
namespace Go.Proofs.Ythpdpbjgdndnmaa.PFnWordsFit
open Go.RowKit Go.Proofs.YthpdpbjgdndnmaaW.PrintWords Go.Proofs.YthpdpbjgdndnmaaW.PrintLast Go.Proofs.YthpdpbjgdndnmaaW.PrintMore
attribute [local go_sem] max2_int min2_int max_two min_two max_three min_three max_four min_four   -- for this text's walks alone
set_option linter.unusedVariables false
set_option linter.unusedSimpArgs false



def errW : Option Int → Value
 | none => .nilIface
 | some c => .iface 0 (.int .i64 c)
theorem errW_none : errW none = .nilIface := rfl
theorem errW_some (c : Int) : errW (some c) = .iface 0 (.int .i64 c) := rfl

theorem info3 : (Try.prog.info? 3).map (fun i => (i.zero, i.size, i.bytes)) = some (some (.int .i64 0), 1, 8) := by kernel_rfl
-- the values' own types

end Go.Proofs.Ythpdpbjgdndnmaa.PFnWordsFit
