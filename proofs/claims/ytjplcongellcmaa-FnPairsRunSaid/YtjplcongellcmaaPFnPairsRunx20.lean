/- What each Go function that the statement FnPairsRun reaches answers, proved call by call. No condition beyond those that the theorems print. (Written by wip/tools/xprint.py of this repo, over the kit's print.) -/
import Derived.Test.YtjplcongellcmaaPFnPairsRunx0
import Derived.Test.YtjplcongellcmaaPFnPairsRunx1
import Derived.Test.YtjplcongellcmaaPFnPairsRunx2
import Derived.Test.YtjplcongellcmaaPFnPairsRunx5
import Derived.Test.YtjplcongellcmaaPFnPairsRunx6
import Derived.Test.YtjplcongellcmaaPFnPairsRunx8
import Derived.Test.YtjplcongellcmaaPFnPairsRunx9
import Derived.Test.YtjplcongellcmaaPFnPairsRunx10
import Derived.Test.YtjplcongellcmaaPFnPairsRunx12
import Derived.Test.YtjplcongellcmaaPFnPairsRunx13
import Derived.Test.YtjplcongellcmaaPFnPairsRunx15
import Derived.Test.YtjplcongellcmaaPFnPairsRunx17
import Derived.Test.YtjplcongellcmaaPFnPairsRunx18
import Derived.Test.YtjplcongellcmaaPFnPairsRunx19
namespace Go.Proofs.Ytjplcongellcmaa.PFnPairsRun
open Go.RowKit Go.Proofs.YtjplcongellcmaaW.PrintWords Go.Proofs.YtjplcongellcmaaW.PrintLast Go.Proofs.YtjplcongellcmaaW.PrintMore
attribute [local go_sem] max2_int min2_int max_two min_two max_three min_three max_four min_four   -- for this text's walks alone
set_option linter.unusedVariables false
set_option linter.unusedSimpArgs false

attribute [local go_sem high] eqA91
def x20a0 : Array Bool := #[Zz,Zz,Zz,Zz,Zz,Zz,Zz,Zz,Zz,Zz,Zz,Zz]
def x20a1 : Array Bool := #[Yy,Zz,Zz,Zz,Zz,Zz,Zz,Zz,Zz,Zz,Zz,Zz]
def x20a2 : Array Bool := #[Yy,Zz,Yy,Zz,Zz,Zz,Zz,Zz,Zz,Zz,Zz,Zz]
def x20a3 : Array Bool := #[Yy,Zz,Yy,Zz,Zz,Yy,Zz,Zz,Zz,Zz,Zz,Zz]
def x20a4 : Array Bool := #[Yy,Zz,Yy,Zz,Zz,Yy,Zz,Yy,Zz,Zz,Zz,Zz]
def x20a5 : Array Bool := #[Yy,Yy,Yy,Zz,Zz,Yy,Zz,Yy,Zz,Zz,Zz,Zz]
def x20a6 : Array Bool := #[Yy,Yy,Yy,Yy,Zz,Yy,Zz,Yy,Zz,Zz,Zz,Zz]
def x20a7 : Array Bool := #[Yy,Yy,Yy,Yy,Yy,Yy,Zz,Yy,Zz,Zz,Zz,Zz]
def x20a8 : Array Bool := #[Yy,Yy,Yy,Yy,Yy,Yy,Yy,Yy,Zz,Zz,Zz,Zz]
def x20a9 : Array Bool := #[Yy,Yy,Yy,Yy,Yy,Yy,Yy,Yy,Yy,Zz,Zz,Zz]
def x20a10 : Array Bool := #[Yy,Yy,Yy,Yy,Yy,Yy,Yy,Yy,Yy,Yy,Zz,Zz]
def x20a11 : Array Bool := #[Yy,Yy,Yy,Yy,Yy,Yy,Yy,Yy,Yy,Yy,Yy,Zz]
def x20a12 : Array Bool := #[Yy,Yy,Yy,Yy,Yy,Yy,Yy,Yy,Yy,Yy,Yy,Yy]
def x20a13 : Array Bool := #[Zz,Zz,Zz,Zz,Zz,Zz,Zz,Zz,Zz,Zz,Zz,Zz,Zz,Zz,Zz,Zz,Zz,Zz,Zz,Zz,Zz,Zz,Zz,Zz,Zz,Zz,Zz,Zz,Zz,Zz,Zz,Zz,Zz,Zz,Zz,Zz,Zz,Zz,Zz,Zz,Zz,Zz]
def x20a14 : Array Bool := #[Yy,Zz,Zz,Zz,Zz,Zz,Zz,Zz,Zz,Zz,Zz,Zz,Zz,Zz,Zz,Zz,Zz,Zz,Zz,Zz,Zz,Zz,Zz,Zz,Zz,Zz,Zz,Zz,Zz,Zz,Zz,Zz,Zz,Zz,Zz,Zz,Zz,Zz,Zz,Zz,Zz,Zz]
def x20a15 : Array Bool := #[Yy,Yy,Zz,Zz,Zz,Zz,Zz,Zz,Zz,Zz,Zz,Zz,Zz,Zz,Zz,Zz,Zz,Zz,Zz,Zz,Zz,Zz,Zz,Zz,Zz,Zz,Zz,Zz,Zz,Zz,Zz,Zz,Zz,Zz,Zz,Zz,Zz,Zz,Zz,Zz,Zz,Zz]
def x20a16 : Array Bool := #[Yy,Yy,Yy,Zz,Zz,Zz,Zz,Zz,Zz,Zz,Zz,Zz,Zz,Zz,Zz,Zz,Zz,Zz,Zz,Zz,Zz,Zz,Zz,Zz,Zz,Zz,Zz,Zz,Zz,Zz,Zz,Zz,Zz,Zz,Zz,Zz,Zz,Zz,Zz,Zz,Zz,Zz]
def x20a17 : Array Bool := #[Yy,Yy,Yy,Yy,Zz,Zz,Zz,Zz,Zz,Zz,Zz,Zz,Zz,Zz,Zz,Zz,Zz,Zz,Zz,Zz,Zz,Zz,Zz,Zz,Zz,Zz,Zz,Zz,Zz,Zz,Zz,Zz,Zz,Zz,Zz,Zz,Zz,Zz,Zz,Zz,Zz,Zz]
def x20a18 : Array Bool := #[Yy,Yy,Yy,Yy,Yy,Zz,Zz,Zz,Zz,Zz,Zz,Zz,Zz,Zz,Zz,Zz,Zz,Zz,Zz,Zz,Zz,Zz,Zz,Zz,Zz,Zz,Zz,Zz,Zz,Zz,Zz,Zz,Zz,Zz,Zz,Zz,Zz,Zz,Zz,Zz,Zz,Zz]
def x20a19 : Array Bool := #[Yy,Yy,Yy,Yy,Yy,Yy,Zz,Zz,Zz,Zz,Zz,Zz,Zz,Zz,Zz,Zz,Zz,Zz,Zz,Zz,Zz,Zz,Zz,Zz,Zz,Zz,Zz,Zz,Zz,Zz,Zz,Zz,Zz,Zz,Zz,Zz,Zz,Zz,Zz,Zz,Zz,Zz]
def x20a20 : Array Bool := #[Yy,Yy,Yy,Yy,Yy,Yy,Yy,Zz,Zz,Zz,Zz,Zz,Zz,Zz,Zz,Zz,Zz,Zz,Zz,Zz,Zz,Zz,Zz,Zz,Zz,Zz,Zz,Zz,Zz,Zz,Zz,Zz,Zz,Zz,Zz,Zz,Zz,Zz,Zz,Zz,Zz,Zz]
def x20a21 : Array Bool := #[Yy,Yy,Yy,Yy,Yy,Yy,Yy,Yy,Zz,Zz,Zz,Zz,Zz,Zz,Zz,Zz,Zz,Zz,Zz,Zz,Zz,Zz,Zz,Zz,Zz,Zz,Zz,Zz,Zz,Zz,Zz,Zz,Zz,Zz,Zz,Zz,Zz,Zz,Zz,Zz,Zz,Zz]
def x20a22 : Array Bool := #[Yy,Yy,Yy,Yy,Yy,Yy,Yy,Yy,Yy,Zz,Zz,Zz,Zz,Zz,Zz,Zz,Zz,Zz,Zz,Zz,Zz,Zz,Zz,Zz,Zz,Zz,Zz,Zz,Zz,Zz,Zz,Zz,Zz,Zz,Zz,Zz,Zz,Zz,Zz,Zz,Zz,Zz]
def x20a23 : Array Bool := #[Yy,Yy,Yy,Yy,Yy,Yy,Yy,Yy,Yy,Yy,Zz,Zz,Zz,Zz,Zz,Zz,Zz,Zz,Zz,Zz,Zz,Zz,Zz,Zz,Zz,Zz,Zz,Zz,Zz,Zz,Zz,Zz,Zz,Zz,Zz,Zz,Zz,Zz,Zz,Zz,Zz,Zz]
def x20a24 : Array Bool := #[Yy,Yy,Yy,Yy,Yy,Yy,Yy,Yy,Yy,Yy,Yy,Zz,Zz,Zz,Zz,Zz,Zz,Zz,Zz,Zz,Zz,Zz,Zz,Zz,Zz,Zz,Zz,Zz,Zz,Zz,Zz,Zz,Zz,Zz,Zz,Zz,Zz,Zz,Zz,Zz,Zz,Zz]
def x20a25 : Array Bool := #[Yy,Yy,Yy,Yy,Yy,Yy,Yy,Yy,Yy,Yy,Yy,Yy,Zz,Zz,Zz,Zz,Zz,Zz,Zz,Zz,Zz,Zz,Zz,Zz,Zz,Zz,Zz,Zz,Zz,Zz,Zz,Zz,Zz,Zz,Zz,Zz,Zz,Zz,Zz,Zz,Zz,Zz]
def x20a26 : Array Bool := #[Yy,Yy,Yy,Yy,Yy,Yy,Yy,Yy,Yy,Yy,Yy,Yy,Yy,Zz,Zz,Zz,Zz,Zz,Zz,Zz,Zz,Zz,Zz,Zz,Zz,Zz,Zz,Zz,Zz,Zz,Zz,Zz,Zz,Zz,Zz,Zz,Zz,Zz,Zz,Zz,Zz,Zz]
def x20a27 : Array Bool := #[Yy,Yy,Yy,Yy,Yy,Yy,Yy,Yy,Yy,Yy,Yy,Yy,Yy,Yy,Zz,Zz,Zz,Zz,Zz,Zz,Zz,Zz,Zz,Zz,Zz,Zz,Zz,Zz,Zz,Zz,Zz,Zz,Zz,Zz,Zz,Zz,Zz,Zz,Zz,Zz,Zz,Zz]
def x20a28 : Array Bool := #[Yy,Yy,Yy,Yy,Yy,Yy,Yy,Yy,Yy,Yy,Yy,Yy,Yy,Yy,Yy,Zz,Zz,Zz,Zz,Zz,Zz,Zz,Zz,Zz,Zz,Zz,Zz,Zz,Zz,Zz,Zz,Zz,Zz,Zz,Zz,Zz,Zz,Zz,Zz,Zz,Zz,Zz]
def x20a29 : Array Bool := #[Yy,Yy,Yy,Yy,Yy,Yy,Yy,Yy,Yy,Yy,Yy,Yy,Yy,Yy,Yy,Yy,Zz,Zz,Zz,Zz,Zz,Zz,Zz,Zz,Zz,Zz,Zz,Zz,Zz,Zz,Zz,Zz,Zz,Zz,Zz,Zz,Zz,Zz,Zz,Zz,Zz,Zz]
def x20a30 : Array Bool := #[Yy,Yy,Yy,Yy,Yy,Yy,Yy,Yy,Yy,Yy,Yy,Yy,Yy,Yy,Yy,Yy,Yy,Zz,Zz,Zz,Zz,Zz,Zz,Zz,Zz,Zz,Zz,Zz,Zz,Zz,Zz,Zz,Zz,Zz,Zz,Zz,Zz,Zz,Zz,Zz,Zz,Zz]
def x20a31 : Array Bool := #[Yy,Yy,Yy,Yy,Yy,Yy,Yy,Yy,Yy,Yy,Yy,Yy,Yy,Yy,Yy,Yy,Yy,Yy,Zz,Zz,Zz,Zz,Zz,Zz,Zz,Zz,Zz,Zz,Zz,Zz,Zz,Zz,Zz,Zz,Zz,Zz,Zz,Zz,Zz,Zz,Zz,Zz]
def x20a32 : Array Bool := #[Yy,Yy,Yy,Yy,Yy,Yy,Yy,Yy,Yy,Yy,Yy,Yy,Yy,Yy,Yy,Yy,Yy,Yy,Yy,Zz,Zz,Zz,Zz,Zz,Zz,Zz,Zz,Zz,Zz,Zz,Zz,Zz,Zz,Zz,Zz,Zz,Zz,Zz,Zz,Zz,Zz,Zz]
def x20a33 : Array Bool := #[Yy,Yy,Yy,Yy,Yy,Yy,Yy,Yy,Yy,Yy,Yy,Yy,Yy,Yy,Yy,Yy,Yy,Yy,Yy,Yy,Zz,Zz,Zz,Zz,Zz,Zz,Zz,Zz,Zz,Zz,Zz,Zz,Zz,Zz,Zz,Zz,Zz,Zz,Zz,Zz,Zz,Zz]
def x20a34 : Array Bool := #[Yy,Yy,Yy,Yy,Yy,Yy,Yy,Yy,Yy,Yy,Yy,Yy,Yy,Yy,Yy,Yy,Yy,Yy,Yy,Yy,Yy,Zz,Zz,Zz,Zz,Zz,Zz,Zz,Zz,Zz,Zz,Zz,Zz,Zz,Zz,Zz,Zz,Zz,Zz,Zz,Zz,Zz]
def x20a35 : Array Bool := #[Yy,Yy,Yy,Yy,Yy,Yy,Yy,Yy,Yy,Yy,Yy,Yy,Yy,Yy,Yy,Yy,Yy,Yy,Yy,Yy,Yy,Yy,Zz,Zz,Zz,Zz,Zz,Zz,Zz,Zz,Zz,Zz,Zz,Zz,Zz,Zz,Zz,Zz,Zz,Zz,Zz,Zz]
def x20a36 : Array Bool := #[Yy,Yy,Yy,Yy,Yy,Yy,Yy,Yy,Yy,Yy,Yy,Yy,Yy,Yy,Yy,Yy,Yy,Yy,Yy,Yy,Yy,Yy,Yy,Zz,Zz,Zz,Zz,Zz,Zz,Zz,Zz,Zz,Zz,Zz,Zz,Zz,Zz,Zz,Zz,Zz,Zz,Zz]
def x20a37 : Array Bool := #[Yy,Yy,Yy,Yy,Yy,Yy,Yy,Yy,Yy,Yy,Yy,Yy,Yy,Yy,Yy,Yy,Yy,Yy,Yy,Yy,Yy,Yy,Yy,Yy,Zz,Zz,Zz,Zz,Zz,Zz,Zz,Zz,Zz,Zz,Zz,Zz,Zz,Zz,Zz,Zz,Zz,Zz]
def x20a38 : Array Bool := #[Yy,Yy,Yy,Yy,Yy,Yy,Yy,Yy,Yy,Yy,Yy,Yy,Yy,Yy,Yy,Yy,Yy,Yy,Yy,Yy,Yy,Yy,Yy,Yy,Yy,Zz,Zz,Zz,Zz,Zz,Zz,Zz,Zz,Zz,Zz,Zz,Zz,Zz,Zz,Zz,Zz,Zz]
def x20a39 : Array Bool := #[Yy,Yy,Yy,Yy,Yy,Yy,Yy,Yy,Yy,Yy,Yy,Yy,Yy,Yy,Yy,Yy,Yy,Yy,Yy,Yy,Yy,Yy,Yy,Yy,Yy,Yy,Zz,Zz,Zz,Zz,Zz,Zz,Zz,Zz,Zz,Zz,Zz,Zz,Zz,Zz,Zz,Zz]
def x20a40 : Array Bool := #[Yy,Yy,Yy,Yy,Yy,Yy,Yy,Yy,Yy,Yy,Yy,Yy,Yy,Yy,Yy,Yy,Yy,Yy,Yy,Yy,Yy,Yy,Yy,Yy,Yy,Yy,Zz,Yy,Zz,Zz,Zz,Zz,Zz,Zz,Zz,Zz,Zz,Zz,Zz,Zz,Zz,Zz]
def x20a41 : Array Bool := #[Yy,Yy,Yy,Yy,Yy,Yy,Yy,Yy,Yy,Yy,Yy,Yy,Yy,Yy,Yy,Yy,Yy,Yy,Yy,Yy,Yy,Yy,Yy,Yy,Yy,Yy,Yy,Yy,Zz,Zz,Zz,Zz,Zz,Zz,Zz,Zz,Zz,Zz,Zz,Zz,Zz,Zz]
def x20a42 : Array Bool := #[Yy,Yy,Yy,Yy,Yy,Yy,Yy,Yy,Yy,Yy,Yy,Yy,Yy,Yy,Yy,Yy,Yy,Yy,Yy,Yy,Yy,Yy,Yy,Yy,Yy,Yy,Yy,Yy,Yy,Zz,Zz,Zz,Zz,Zz,Zz,Zz,Zz,Zz,Zz,Zz,Zz,Zz]
def x20a43 : Array Bool := #[Yy,Yy,Yy,Yy,Yy,Yy,Yy,Yy,Yy,Yy,Yy,Yy,Yy,Yy,Yy,Yy,Yy,Yy,Yy,Yy,Yy,Yy,Yy,Yy,Yy,Yy,Yy,Yy,Yy,Yy,Zz,Zz,Zz,Zz,Zz,Zz,Zz,Zz,Zz,Zz,Zz,Zz]
def x20a44 : Array Bool := #[Yy,Yy,Yy,Yy,Yy,Yy,Yy,Yy,Yy,Yy,Yy,Yy,Yy,Yy,Yy,Yy,Yy,Yy,Yy,Yy,Yy,Yy,Yy,Yy,Yy,Yy,Yy,Yy,Yy,Yy,Yy,Zz,Zz,Zz,Zz,Zz,Zz,Zz,Zz,Zz,Zz,Zz]
def x20a45 : Array Bool := #[Yy,Yy,Yy,Yy,Yy,Yy,Yy,Yy,Yy,Yy,Yy,Yy,Yy,Yy,Yy,Yy,Yy,Yy,Yy,Yy,Yy,Yy,Yy,Yy,Yy,Yy,Yy,Yy,Yy,Yy,Yy,Yy,Zz,Zz,Zz,Zz,Zz,Zz,Zz,Zz,Zz,Zz]
def x20a46 : Array Bool := #[Yy,Yy,Yy,Yy,Yy,Yy,Yy,Yy,Yy,Yy,Yy,Yy,Yy,Yy,Yy,Yy,Yy,Yy,Yy,Yy,Yy,Yy,Yy,Yy,Yy,Yy,Yy,Yy,Yy,Yy,Yy,Yy,Yy,Zz,Zz,Zz,Zz,Zz,Zz,Zz,Zz,Zz]
def x20a47 : Array Bool := #[Yy,Yy,Yy,Yy,Yy,Yy,Yy,Yy,Yy,Yy,Yy,Yy,Yy,Yy,Yy,Yy,Yy,Yy,Yy,Yy,Yy,Yy,Yy,Yy,Yy,Yy,Yy,Yy,Yy,Yy,Yy,Yy,Yy,Yy,Zz,Zz,Zz,Zz,Zz,Zz,Zz,Zz]
def x20a48 : Array Bool := #[Yy,Yy,Yy,Yy,Yy,Yy,Yy,Yy,Yy,Yy,Yy,Yy,Yy,Yy,Yy,Yy,Yy,Yy,Yy,Yy,Yy,Yy,Yy,Yy,Yy,Yy,Yy,Yy,Yy,Yy,Yy,Yy,Yy,Yy,Yy,Zz,Zz,Zz,Zz,Zz,Zz,Zz]
def x20a49 : Array Bool := #[Yy,Yy,Yy,Yy,Yy,Yy,Yy,Yy,Yy,Yy,Yy,Yy,Yy,Yy,Yy,Yy,Yy,Yy,Yy,Yy,Yy,Yy,Yy,Yy,Yy,Yy,Yy,Yy,Yy,Yy,Yy,Yy,Yy,Yy,Yy,Yy,Zz,Zz,Zz,Zz,Zz,Zz]
def x20a50 : Array Bool := #[Yy,Yy,Yy,Yy,Yy,Yy,Yy,Yy,Yy,Yy,Yy,Yy,Yy,Yy,Yy,Yy,Yy,Yy,Yy,Yy,Yy,Yy,Yy,Yy,Yy,Yy,Yy,Yy,Yy,Yy,Yy,Yy,Yy,Yy,Yy,Yy,Yy,Zz,Zz,Zz,Zz,Zz]
def x20a51 : Array Bool := #[Yy,Yy,Yy,Yy,Yy,Yy,Yy,Yy,Yy,Yy,Yy,Yy,Yy,Yy,Yy,Yy,Yy,Yy,Yy,Yy,Yy,Yy,Yy,Yy,Yy,Yy,Yy,Yy,Yy,Yy,Yy,Yy,Yy,Yy,Yy,Yy,Yy,Yy,Zz,Zz,Zz,Zz]
def x20a52 : Array Bool := #[Yy,Yy,Yy,Yy,Yy,Yy,Yy,Yy,Yy,Yy,Yy,Yy,Yy,Yy,Yy,Yy,Yy,Yy,Yy,Yy,Yy,Yy,Yy,Yy,Yy,Yy,Yy,Yy,Yy,Yy,Yy,Yy,Yy,Yy,Yy,Yy,Yy,Yy,Yy,Zz,Zz,Zz]
def x20a53 : Array Bool := #[Yy,Yy,Yy,Yy,Yy,Yy,Yy,Yy,Yy,Yy,Yy,Yy,Yy,Yy,Yy,Yy,Yy,Yy,Yy,Yy,Yy,Yy,Yy,Yy,Yy,Yy,Yy,Yy,Yy,Yy,Yy,Yy,Yy,Yy,Yy,Yy,Yy,Yy,Yy,Yy,Zz,Zz]
def x20a54 : Array Bool := #[Yy,Yy,Yy,Yy,Yy,Yy,Yy,Yy,Yy,Yy,Yy,Yy,Yy,Yy,Yy,Yy,Yy,Yy,Yy,Yy,Yy,Yy,Yy,Yy,Yy,Yy,Yy,Yy,Yy,Yy,Yy,Yy,Yy,Yy,Yy,Yy,Yy,Yy,Yy,Yy,Yy,Zz]
def x20a55 : Array Bool := #[Yy,Yy,Yy,Yy,Yy,Yy,Yy,Yy,Yy,Yy,Yy,Yy,Yy,Yy,Yy,Yy,Yy,Yy,Yy,Yy,Yy,Yy,Yy,Yy,Yy,Yy,Yy,Yy,Yy,Yy,Yy,Yy,Yy,Yy,Yy,Yy,Yy,Yy,Yy,Yy,Yy,Yy]
/-! ### laws_FnPairsRun: function 10 -/
mutual
def laws_FnPairsRun.j0 : Nat → List Int → Int → Int → List Int → List Int → Bool → List Int → Bool → Int → Bool → Int → Int → Int → Int → Int → Bool → Option (Bool)
 | 0, _, _, _, _, _, _, _, _, _, _, _, _, _, _, _, _ => none
 | k + 1, x1, x6, x7, x8, x9, x10, x13, x14, x17, x163, x617000, x617001, x617002, x617003, x617004, x617005 => if x163 = true then (some false) else (if x10 = true then (laws_FnPairsRun.l0 k x1 x9 x13 x14 x17 x6 x7 x8 (x8.length : Int) 0 x617000 x617001 x617002 x617003 x617004 x617005) else (laws_FnPairsRun.j2 k x1))
def laws_FnPairsRun.j2 : Nat → List Int → Option (Bool)
 | 0, _ => none
 | k + 1, x1 => (spec_DrawSecondOfFirsts.f x1).bind fun bt644 => ((impl_SecondOfFirsts.f k bt644.1 bt644.2.1 bt644.2.2.1 bt644.2.2.2.1 bt644.2.2.2.2.1 bt644.2.2.2.2.2.1 bt644.2.2.2.2.2.2.1 bt644.2.2.2.2.2.2.2.1 bt644.2.2.2.2.2.2.2.2.1 bt644.2.2.2.2.2.2.2.2.2).bind fun bt656 => ((spec_SecondOfFirsts.f k bt644.1 bt644.2.1 bt644.2.2.1 bt644.2.2.2.1 bt644.2.2.2.2.1 bt644.2.2.2.2.2.1 bt644.2.2.2.2.2.2.1 bt644.2.2.2.2.2.2.2.1 bt644.2.2.2.2.2.2.2.2.1 bt644.2.2.2.2.2.2.2.2.2).bind fun bt664 => (if (bt656.2.2.2.2.2.2 != bt664.2.2.2.2.2.2) = true then (laws_FnPairsRun.j3 k x1 bt656.2.2.2.2.2.2 true bt644.1 bt644.2.1 bt644.2.2.1 bt644.2.2.2.1 bt644.2.2.2.2.1 bt644.2.2.2.2.2.1 bt644.2.2.2.2.2.2.1 bt644.2.2.2.2.2.2.2.1 bt644.2.2.2.2.2.2.2.2.1 bt644.2.2.2.2.2.2.2.2.2 bt656.1 bt656.2.1 bt656.2.2.1 bt656.2.2.2.1 bt656.2.2.2.2.1 bt656.2.2.2.2.2.1) else (laws_FnPairsRun.j3 k x1 bt656.2.2.2.2.2.2 (!(bt656.1 == bt664.1) || (!(bt656.2.1 == bt664.2.1) || (!(bt656.2.2.1 == bt664.2.2.1) || (!(bt656.2.2.2.1 == bt664.2.2.2.1) || ((!(bt656.2.2.2.2.1 == bt664.2.2.2.2.1) || (!(bt656.2.2.2.2.2.1 == bt664.2.2.2.2.2.1)))))))) bt644.1 bt644.2.1 bt644.2.2.1 bt644.2.2.2.1 bt644.2.2.2.2.1 bt644.2.2.2.2.2.1 bt644.2.2.2.2.2.2.1 bt644.2.2.2.2.2.2.2.1 bt644.2.2.2.2.2.2.2.2.1 bt644.2.2.2.2.2.2.2.2.2 bt656.1 bt656.2.1 bt656.2.2.1 bt656.2.2.2.1 bt656.2.2.2.2.1 bt656.2.2.2.2.2.1))))
def laws_FnPairsRun.j3 : Nat → List Int → Bool → Bool → Int → Int → Int → Int → Bool → Int → Int → Int → Int → Bool → Int → Int → Int → Int → Int → Bool → Option (Bool)
 | 0, _, _, _, _, _, _, _, _, _, _, _, _, _, _, _, _, _, _, _ => none
 | k + 1, x1, x30, x235, x655000, x655001, x655002, x655003, x655004, x656000, x656001, x656002, x656003, x656004, x664000, x664001, x664002, x664003, x664004, x664005 => if x235 = true then (some false) else (if x30 = true then ((some (([5, 0, (-3), 1] : List Int) : List Int)).bind fun y672 => ((impl_ExactChain.f k (([(⟨x655000, x655001, x655002, (⟨x655003, x655004⟩ : S46)⟩ : S62), (⟨x656000, x656001, x656002, (⟨x656003, x656004⟩ : S46)⟩ : S62)] : List (S62))) y672).bind fun bt678 => ((impl_ExactSecond.f k x664000 x664001 x664002 x664003 x664004 x664005 0 0 y672).bind fun bt682 => (if bt678.2 = true then (if bt682.2 = true then ((laws_uSame.f k bt678.1 bt682.1).bind fun t686 => (laws_FnPairsRun.j4 k x1 (!t686) x655000 x655001 x655002 x655003 x655004 x656000 x656001 x656002 x656003 x656004 x664000 x664001 x664002 x664003 x664004 x664005)) else (laws_FnPairsRun.j4 k x1 false x655000 x655001 x655002 x655003 x655004 x656000 x656001 x656002 x656003 x656004 x664000 x664001 x664002 x664003 x664004 x664005)) else (laws_FnPairsRun.j4 k x1 false x655000 x655001 x655002 x655003 x655004 x656000 x656001 x656002 x656003 x656004 x664000 x664001 x664002 x664003 x664004 x664005))))) else (laws_FnPairsRun.j5 k x1))
def laws_FnPairsRun.j5 : Nat → List Int → Option (Bool)
 | 0, _ => none
 | k + 1, x1 => (spec_DrawIsInTriangle.f k x1).bind fun bt695 => ((impl_IsInTriangle.f bt695.1 bt695.2.1 bt695.2.2.1 bt695.2.2.2.1 bt695.2.2.2.2.1 bt695.2.2.2.2.2).bind fun bt702 => ((spec_IsInTriangle.f bt695.1 bt695.2.1 bt695.2.2.1 bt695.2.2.2.1 bt695.2.2.2.2.1 bt695.2.2.2.2.2).bind fun bt704 => ((impl_RootsOf.f bt695.1 bt695.2.1 bt695.2.2.1 bt695.2.2.2.1 bt695.2.2.2.2.1 bt695.2.2.2.2.2).bind fun bt706 => ((spec_RootsOf.f bt695.1 bt695.2.1 bt695.2.2.1 bt695.2.2.2.1 bt695.2.2.2.2.1 bt695.2.2.2.2.2).bind fun bt708 => ((spec_DrawSecondStep.f k x1).bind fun bt710 => ((impl_SecondStep.f k bt710.1 bt710.2.1 bt710.2.2.1 bt710.2.2.2.1 bt710.2.2.2.2.1 bt710.2.2.2.2.2.1 bt710.2.2.2.2.2.2.1 bt710.2.2.2.2.2.2.2.1 bt710.2.2.2.2.2.2.2.2).bind fun bt720 => ((spec_SecondStep.f k bt710.1 bt710.2.1 bt710.2.2.1 bt710.2.2.2.1 bt710.2.2.2.2.1 bt710.2.2.2.2.2.1 bt710.2.2.2.2.2.2.1 bt710.2.2.2.2.2.2.2.1 bt710.2.2.2.2.2.2.2.2).bind fun bt722 => (if (bt702.2 == bt704.2) = true then (if (bt702.1 == bt704.1) = true then (if (bt706.2 == bt708.2) = true then (if bt706.1.toList = bt708.1.toList then ((impl_IsSecond.f bt695.1 bt695.2.1 bt695.2.2.1 bt695.2.2.2.1 bt695.2.2.2.2.1 bt695.2.2.2.2.2).bind fun t724 => (if (bt702.2 == t724) = true then ((impl_IsSecond.f bt695.1 bt695.2.1 bt695.2.2.1 bt695.2.2.2.1 bt695.2.2.2.2.1 bt695.2.2.2.2.2).bind fun t725 => ((spec_IsSecond.f bt695.1 bt695.2.1 bt695.2.2.1 bt695.2.2.2.1 bt695.2.2.2.2.1 bt695.2.2.2.2.2).bind fun t726 => (if (t725 == t726) = true then (if (bt720.2 == bt722.2) = true then (some (bt720.1 == bt722.1)) else (some false)) else (some false)))) else (some false))) else (some false)) else (some false)) else (some false)) else (some false)))))))))
def laws_FnPairsRun.j4 : Nat → List Int → Bool → Int → Int → Int → Int → Bool → Int → Int → Int → Int → Bool → Int → Int → Int → Int → Int → Bool → Option (Bool)
 | 0, _, _, _, _, _, _, _, _, _, _, _, _, _, _, _, _, _, _ => none
 | k + 1, x1, x261, x655000, x655001, x655002, x655003, x655004, x656000, x656001, x656002, x656003, x656004, x664000, x664001, x664002, x664003, x664004, x664005 => if x261 = true then (some false) else ((impl_IsShrinking.f x655000 x655001 x655002 x655003 x655004).bind fun bt687 => ((impl_IsShrinking.f x656000 x656001 x656002 x656003 x656004).bind fun bt689 => ((impl_IsInTriangle.f x664000 x664001 x664002 x664003 x664004 x664005).bind fun bt691 => ((impl_RootsOf.f x664000 x664001 x664002 x664003 x664004 x664005).bind fun bt693 => (if 0 ≤ x656001 then (if 0 ≤ x655001 then (if bt687.2 = true then (if bt689.2 = true then (if bt691.2 = true then (if bt693.2 = true then (if bt687.1 = true then (if (bt691.1 != bt689.1) = true then (some false) else (if bt693.1.toList = ([116, 117, 114, 110] : List UInt8) then (some false) else (if ((bt693.1.toList == ([111, 110, 101] : List UInt8)) != ((shl .i64 x655000 x656001) == (shl .i64 x656000 x655001))) = true then (some false) else (laws_FnPairsRun.j5 k x1)))) else (if (bt691.1 != false) = true then (some false) else (if bt693.1.toList = ([116, 117, 114, 110] : List UInt8) then (some false) else (if ((bt693.1.toList == ([111, 110, 101] : List UInt8)) != ((shl .i64 x655000 x656001) == (shl .i64 x656000 x655001))) = true then (some false) else (laws_FnPairsRun.j5 k x1))))) else (some false)) else (some false)) else (some false)) else (some false)) else (none)) else (none))))))
def laws_FnPairsRun.l0 : Nat → List Int → List Int → List Int → Bool → Int → Int → Int → List Int → Int → Int → Int → Int → Int → Int → Int → Bool → Option (Bool)
 | 0, _, _, _, _, _, _, _, _, _, _, _, _, _, _, _, _ => none
 | k + 1, x1, x9, x13, x14, x17, x21, x22, x167, x168, x169, x617000, x617001, x617002, x617003, x617004, x617005 => if x169 < x168 then (if 0 ≤ x169 then (if x169 < (x167.length : Int) then ((impl_SecondStep.f k x617000 x617001 x617002 x617003 x617004 x617005 x21 x22 (rd x167 x169)).bind fun bt640 => (if bt640.2 = true then (if x169 < (x9.length : Int) then (if bt640.1 = (rd x9 x169) then (laws_FnPairsRun.l0 k x1 x9 x13 x14 x17 bt640.1 x21 x167 x168 (wrap64 (x169 + 1)) x617000 x617001 x617002 x617003 x617004 x617005) else (some false)) else (none)) else (some false))) else (none)) else (none)) else (if x617002 = 0 then (if x14 = true then (if x17 = 0 then ((laws_uSame.f k x13 x9).bind fun t643 => (if t643 = true then (laws_FnPairsRun.j2 k x1) else (some false))) else (laws_FnPairsRun.j2 k x1)) else (laws_FnPairsRun.j2 k x1)) else (laws_FnPairsRun.j2 k x1))
end
def laws_FnPairsRun.f (k : Nat) (l0 : List Int) (l1 : List Int) : Option (Bool) := (laws_big.f l0 l1).bind fun t604 => (if t604 = true then (some true) else ((spec_DrawExactSecond.f k l0).bind fun bt605 => ((impl_RunSecond.f k bt605.1 bt605.2.1 bt605.2.2.1 bt605.2.2.2.1 bt605.2.2.2.2.1 bt605.2.2.2.2.2.1 bt605.2.2.2.2.2.2.1 bt605.2.2.2.2.2.2.2.1 bt605.2.2.2.2.2.2.2.2).bind fun bt617 => ((spec_RunSecond.f k bt605.1 bt605.2.1 bt605.2.2.1 bt605.2.2.2.1 bt605.2.2.2.2.1 bt605.2.2.2.2.2.1 bt605.2.2.2.2.2.2.1 bt605.2.2.2.2.2.2.2.1 bt605.2.2.2.2.2.2.2.2).bind fun bt621 => ((impl_ExactSecond.f k bt605.1 bt605.2.1 bt605.2.2.1 bt605.2.2.2.1 bt605.2.2.2.2.1 bt605.2.2.2.2.2.1 bt605.2.2.2.2.2.2.1 bt605.2.2.2.2.2.2.2.1 bt605.2.2.2.2.2.2.2.2).bind fun bt625 => ((spec_ExactSecond.f k bt605.1 bt605.2.1 bt605.2.2.1 bt605.2.2.2.1 bt605.2.2.2.2.1 bt605.2.2.2.2.2.1 bt605.2.2.2.2.2.2.1 bt605.2.2.2.2.2.2.2.1 bt605.2.2.2.2.2.2.2.2).bind fun bt629 => ((impl_CountPairFits.f k bt605.1 bt605.2.1 bt605.2.2.1 bt605.2.2.2.1 bt605.2.2.2.2.1 bt605.2.2.2.2.2.1 bt605.2.2.2.2.2.2.1 bt605.2.2.2.2.2.2.2.1 bt605.2.2.2.2.2.2.2.2).bind fun bt633 => ((spec_CountPairFits.f k bt605.1 bt605.2.1 bt605.2.2.1 bt605.2.2.2.1 bt605.2.2.2.2.1 bt605.2.2.2.2.2.1 bt605.2.2.2.2.2.2.1 bt605.2.2.2.2.2.2.2.1 bt605.2.2.2.2.2.2.2.2).bind fun bt635 => (if (bt617.2 != bt621.2) = true then (laws_FnPairsRun.j0 k l1 bt605.2.2.2.2.2.2.1 bt605.2.2.2.2.2.2.2.1 bt605.2.2.2.2.2.2.2.2 bt617.1 bt617.2 bt625.1 bt625.2 bt633.1 true bt605.1 bt605.2.1 bt605.2.2.1 bt605.2.2.2.1 bt605.2.2.2.2.1 bt605.2.2.2.2.2.1) else ((laws_uSame.f k bt617.1 bt621.1).bind fun t637 => (if t637 = true then (if (bt625.2 != bt629.2) = true then (laws_FnPairsRun.j0 k l1 bt605.2.2.2.2.2.2.1 bt605.2.2.2.2.2.2.2.1 bt605.2.2.2.2.2.2.2.2 bt617.1 bt617.2 bt625.1 bt625.2 bt633.1 true bt605.1 bt605.2.1 bt605.2.2.1 bt605.2.2.2.1 bt605.2.2.2.2.1 bt605.2.2.2.2.2.1) else ((laws_uSame.f k bt625.1 bt629.1).bind fun t638 => (if t638 = true then (if (bt633.2 != bt635.2) = true then (laws_FnPairsRun.j0 k l1 bt605.2.2.2.2.2.2.1 bt605.2.2.2.2.2.2.2.1 bt605.2.2.2.2.2.2.2.2 bt617.1 bt617.2 bt625.1 bt625.2 bt633.1 true bt605.1 bt605.2.1 bt605.2.2.1 bt605.2.2.2.1 bt605.2.2.2.2.1 bt605.2.2.2.2.2.1) else (if bt633.1 = bt635.1 then (if (bt633.2 != bt617.2) = true then (laws_FnPairsRun.j0 k l1 bt605.2.2.2.2.2.2.1 bt605.2.2.2.2.2.2.2.1 bt605.2.2.2.2.2.2.2.2 bt617.1 bt617.2 bt625.1 bt625.2 bt633.1 true bt605.1 bt605.2.1 bt605.2.2.1 bt605.2.2.2.1 bt605.2.2.2.2.1 bt605.2.2.2.2.2.1) else (if bt625.2 = true then (laws_FnPairsRun.j0 k l1 bt605.2.2.2.2.2.2.1 bt605.2.2.2.2.2.2.2.1 bt605.2.2.2.2.2.2.2.2 bt617.1 bt617.2 bt625.1 bt625.2 bt633.1 (!bt617.2) bt605.1 bt605.2.1 bt605.2.2.1 bt605.2.2.2.1 bt605.2.2.2.2.1 bt605.2.2.2.2.2.1) else (laws_FnPairsRun.j0 k l1 bt605.2.2.2.2.2.2.1 bt605.2.2.2.2.2.2.2.1 bt605.2.2.2.2.2.2.2.2 bt617.1 bt617.2 bt625.1 bt625.2 bt633.1 false bt605.1 bt605.2.1 bt605.2.2.1 bt605.2.2.2.1 bt605.2.2.2.2.1 bt605.2.2.2.2.2.1))) else (laws_FnPairsRun.j0 k l1 bt605.2.2.2.2.2.2.1 bt605.2.2.2.2.2.2.2.1 bt605.2.2.2.2.2.2.2.2 bt617.1 bt617.2 bt625.1 bt625.2 bt633.1 true bt605.1 bt605.2.1 bt605.2.2.1 bt605.2.2.2.1 bt605.2.2.2.2.1 bt605.2.2.2.2.2.1))) else (laws_FnPairsRun.j0 k l1 bt605.2.2.2.2.2.2.1 bt605.2.2.2.2.2.2.2.1 bt605.2.2.2.2.2.2.2.2 bt617.1 bt617.2 bt625.1 bt625.2 bt633.1 true bt605.1 bt605.2.1 bt605.2.2.1 bt605.2.2.2.1 bt605.2.2.2.2.1 bt605.2.2.2.2.2.1)))) else (laws_FnPairsRun.j0 k l1 bt605.2.2.2.2.2.2.1 bt605.2.2.2.2.2.2.2.1 bt605.2.2.2.2.2.2.2.2 bt617.1 bt617.2 bt625.1 bt625.2 bt633.1 true bt605.1 bt605.2.1 bt605.2.2.1 bt605.2.2.2.1 bt605.2.2.2.2.1 bt605.2.2.2.2.2.1))))))))))))
theorem laws_FnPairsRun.mono_l : ∀ k, (∀ y0 y1 y2 y3 y4 y5 y6 y7 y8 y9 y10 y11 y12 y13 y14 y15, LeO (laws_FnPairsRun.j0 k y0 y1 y2 y3 y4 y5 y6 y7 y8 y9 y10 y11 y12 y13 y14 y15) (laws_FnPairsRun.j0 (k + 1) y0 y1 y2 y3 y4 y5 y6 y7 y8 y9 y10 y11 y12 y13 y14 y15)) ∧ (∀ y0, LeO (laws_FnPairsRun.j2 k y0) (laws_FnPairsRun.j2 (k + 1) y0)) ∧ (∀ y0 y1 y2 y3 y4 y5 y6 y7 y8 y9 y10 y11 y12 y13 y14 y15 y16 y17 y18, LeO (laws_FnPairsRun.j3 k y0 y1 y2 y3 y4 y5 y6 y7 y8 y9 y10 y11 y12 y13 y14 y15 y16 y17 y18) (laws_FnPairsRun.j3 (k + 1) y0 y1 y2 y3 y4 y5 y6 y7 y8 y9 y10 y11 y12 y13 y14 y15 y16 y17 y18)) ∧ (∀ y0, LeO (laws_FnPairsRun.j5 k y0) (laws_FnPairsRun.j5 (k + 1) y0)) ∧ (∀ y0 y1 y2 y3 y4 y5 y6 y7 y8 y9 y10 y11 y12 y13 y14 y15 y16 y17, LeO (laws_FnPairsRun.j4 k y0 y1 y2 y3 y4 y5 y6 y7 y8 y9 y10 y11 y12 y13 y14 y15 y16 y17) (laws_FnPairsRun.j4 (k + 1) y0 y1 y2 y3 y4 y5 y6 y7 y8 y9 y10 y11 y12 y13 y14 y15 y16 y17)) ∧ (∀ y0 y1 y2 y3 y4 y5 y6 y7 y8 y9 y10 y11 y12 y13 y14 y15, LeO (laws_FnPairsRun.l0 k y0 y1 y2 y3 y4 y5 y6 y7 y8 y9 y10 y11 y12 y13 y14 y15) (laws_FnPairsRun.l0 (k + 1) y0 y1 y2 y3 y4 y5 y6 y7 y8 y9 y10 y11 y12 y13 y14 y15))
 | 0 => ⟨fun _ _ _ _ _ _ _ _ _ _ _ _ _ _ _ _ r h => by simp [laws_FnPairsRun.j0] at h, fun _ r h => by simp [laws_FnPairsRun.j2] at h, fun _ _ _ _ _ _ _ _ _ _ _ _ _ _ _ _ _ _ _ r h => by simp [laws_FnPairsRun.j3] at h, fun _ r h => by simp [laws_FnPairsRun.j5] at h, fun _ _ _ _ _ _ _ _ _ _ _ _ _ _ _ _ _ _ r h => by simp [laws_FnPairsRun.j4] at h, fun _ _ _ _ _ _ _ _ _ _ _ _ _ _ _ _ r h => by simp [laws_FnPairsRun.l0] at h⟩
 | k + 1 => by
  obtain ⟨ih0, ih1, ih2, ih3, ih4, ih5⟩ := laws_FnPairsRun.mono_l k
  have m0 := @impl_CountPairFits.mono
  have m1 := @impl_ExactChain.mono
  have m2 := @impl_ExactSecond.mono
  have m3 := @impl_RunSecond.mono
  have m4 := @impl_SecondOfFirsts.mono
  have m5 := @impl_SecondStep.mono
  have m6 := @laws_uSame.mono
  have m7 := @spec_CountPairFits.mono
  have m8 := @spec_DrawExactSecond.mono
  have m9 := @spec_DrawIsInTriangle.mono
  have m10 := @spec_DrawSecondStep.mono
  have m11 := @spec_ExactSecond.mono
  have m12 := @spec_RunSecond.mono
  have m13 := @spec_SecondOfFirsts.mono
  have m14 := @spec_SecondStep.mono
  refine ⟨?_, ?_, ?_, ?_, ?_, ?_⟩ <;> intros
  ·unfold laws_FnPairsRun.j0; exact xM
  ·unfold laws_FnPairsRun.j2; exact xM
  ·unfold laws_FnPairsRun.j3; exact xM
  ·unfold laws_FnPairsRun.j5; exact xM
  ·unfold laws_FnPairsRun.j4; exact xM
  ·unfold laws_FnPairsRun.l0; exact xM
theorem laws_FnPairsRun.mono : ∀ a0 a1 k, LeO (laws_FnPairsRun.f k a0 a1) (laws_FnPairsRun.f (k + 1) a0 a1) := by
 intro a0 a1 k
 obtain ⟨ih0, ih1, ih2, ih3, ih4, ih5⟩ := laws_FnPairsRun.mono_l k
 have m0 := @impl_CountPairFits.mono
 have m1 := @impl_ExactChain.mono
 have m2 := @impl_ExactSecond.mono
 have m3 := @impl_RunSecond.mono
 have m4 := @impl_SecondOfFirsts.mono
 have m5 := @impl_SecondStep.mono
 have m6 := @laws_uSame.mono
 have m7 := @spec_CountPairFits.mono
 have m8 := @spec_DrawExactSecond.mono
 have m9 := @spec_DrawIsInTriangle.mono
 have m10 := @spec_DrawSecondStep.mono
 have m11 := @spec_ExactSecond.mono
 have m12 := @spec_RunSecond.mono
 have m13 := @spec_SecondOfFirsts.mono
 have m14 := @spec_SecondStep.mono
 unfold laws_FnPairsRun.f
 exact xM
def laws_FnPairsRun.T40 : Bool × List (List Nat × List Nat) := (true, [([], []), ([0], [0]), ([], []), ([2], [2]), ([1, 3], [1, 3]), ([], []), ([5], [5]), ([], []), ([7], [7]), ([6, 8], [6, 8]), ([4, 9], [4, 9]), ([10, 0, 1, 2, 3, 4, 5, 6, 7, 8, 9, 10], [10])])
def laws_FnPairsRun.B40 : List Nat := [0, 1, 0, 4, 15, 0, 32, 0, 128, 480, 1023, 2047]
theorem laws_FnPairsRun.tab40 : rtab .any (opsOf Try.f10 40) = laws_FnPairsRun.T40 := by kernel_rfl
theorem laws_FnPairsRun.bits40 : waitsOk laws_FnPairsRun.T40.2 laws_FnPairsRun.B40 = true := by kernel_rfl
def laws_FnPairsRun.T51 : Bool × List (List Nat × List Nat) := (true, [([], []), ([], []), ([0, 1], [0, 1]), ([2], [2]), ([3], [3]), ([3], [3]), ([4, 5, 3], [3, 4, 5]), ([3, 6], [3, 6]), ([7, 3], [7]), ([8], [8]), ([8], [8]), ([9, 10, 8], [8, 9, 10]), ([8, 11], [8, 11]), ([12, 8], [12]), ([13], [13]), ([13], [13]), ([14, 15, 13], [13, 14, 15]), ([13, 16], [13, 16]), ([17, 13], [17]), ([18], [18]), ([18], [18]), ([20, 18, 18], [18, 20]), ([19, 21, 18], [18, 19, 21]), ([18, 22], [18, 22]), ([23, 21], [23]), ([24], [24]), ([25, 24, 24], [24, 25]), ([24], [24]), ([27, 26, 24], [24, 27]), ([26, 28, 24], [24, 26, 28]), ([24, 29], [24, 29]), ([30, 28], [30]), ([31], [31]), ([31], [31]), ([32, 33, 31], [31, 32, 33]), ([31, 34], [31, 34]), ([35, 31], [35]), ([36], [36]), ([36], [36]), ([37, 38, 36], [36, 37, 38]), ([36, 39], [36, 39]), ([40, 36, 0, 1, 2, 3, 4, 5, 6, 7, 8, 9, 10, 11, 12, 13, 14, 15, 16, 17, 18, 19, 20, 21, 22, 23, 24, 25, 26, 27, 28, 29, 30, 31, 32, 33, 34, 35, 36, 37, 38, 39, 40], [40])])
def laws_FnPairsRun.B51 : List Nat := [0, 0, 3, 7, 15, 15, 63, 127, 255, 511, 511, 2047, 4095, 8191, 16383, 16383, 65535, 131071, 262143, 524287, 524287, 1572863, 4194303, 8388607, 16777215, 33554431, 67108863, 33554431, 268435455, 536870911, 1073741823, 2147483647, 4294967295, 4294967295, 17179869183, 34359738367, 68719476735, 137438953471, 137438953471, 549755813887, 1099511627775, 2199023255551]
theorem laws_FnPairsRun.tab51 : rtab .any (opsOf Try.f10 51) = laws_FnPairsRun.T51 := by kernel_rfl
theorem laws_FnPairsRun.bits51 : waitsOk laws_FnPairsRun.T51.2 laws_FnPairsRun.B51 = true := by kernel_rfl

end Go.Proofs.Ytjplcongellcmaa.PFnPairsRun
