-- full words
import Derived.Test.YtjplcongellcmaaWInv
import Derived.Test.YtjplcongellcmaaWFootNe
namespace Go.Proofs.YtjplcongellcmaaW.PrintWords
open Go.RowKit
end Go.Proofs.YtjplcongellcmaaW.PrintWords
namespace Go.Proofs.YtjplcongellcmaaW.PrintLast
section
variable {ops : Array Oper} {a : Act} {o og : Oper} {g : Nat} {t : Tmp} {u : Bool}
end
end Go.Proofs.YtjplcongellcmaaW.PrintLast
