/- What each Go function that the statement FnStepsAdapt reaches answers, proved call by call. No condition beyond those that the theorems print. (Written by wip/tools/xprint.py of this repo, over the kit's print.) -/
import Derived.Test.YtjplcongellcmaaPFnStepsAdaptx0
import Derived.Test.YtjplcongellcmaaPFnStepsAdaptx1
import Derived.Test.YtjplcongellcmaaPFnStepsAdaptx3
import Derived.Test.YtjplcongellcmaaPFnStepsAdaptx4
import Derived.Test.YtjplcongellcmaaPFnStepsAdaptx5
import Derived.Test.YtjplcongellcmaaPFnStepsAdaptx6
import Derived.Test.YtjplcongellcmaaPFnStepsAdaptx7
import Derived.Test.YtjplcongellcmaaPFnStepsAdaptx8
import Derived.Test.YtjplcongellcmaaPFnStepsAdaptx9
namespace Go.Proofs.Ytjplcongellcmaa.PFnStepsAdapt
open Go.RowKit Go.Proofs.YtjplcongellcmaaW.PrintWords Go.Proofs.YtjplcongellcmaaW.PrintLast Go.Proofs.YtjplcongellcmaaW.PrintMore
attribute [local go_sem] max2_int min2_int max_two min_two max_three min_three max_four min_four   -- for this text's walks alone
set_option linter.unusedVariables false
set_option linter.unusedSimpArgs false
def x10a0 : Array Bool := #[false, false, false, false, false, false, false, false, false, false, false, false, false, false, false, false, false, false, false, false, false, false, false, false, false, false, false, false, false, false, false, false, false, false, false, false, false]
def x10a1 : Array Bool := #[true, false, false, false, false, false, false, false, false, false, false, false, false, false, false, false, false, false, false, false, false, false, false, false, false, false, false, false, false, false, false, false, false, false, false, false, false]
def x10a2 : Array Bool := #[true, true, false, false, false, false, false, false, false, false, false, false, false, false, false, false, false, false, false, false, false, false, false, false, false, false, false, false, false, false, false, false, false, false, false, false, false]
def x10a3 : Array Bool := #[true, true, true, false, false, false, false, false, false, false, false, false, false, false, false, false, false, false, false, false, false, false, false, false, false, false, false, false, false, false, false, false, false, false, false, false, false]
def x10a4 : Array Bool := #[true, true, true, false, false, true, false, false, false, false, false, false, false, false, false, false, false, false, false, false, false, false, false, false, false, false, false, false, false, false, false, false, false, false, false, false, false]
def x10a5 : Array Bool := #[true, true, true, false, false, true, true, false, false, false, false, false, false, false, false, false, false, false, false, false, false, false, false, false, false, false, false, false, false, false, false, false, false, false, false, false, false]
def x10a6 : Array Bool := #[true, true, true, false, false, true, true, true, false, false, false, false, false, false, false, false, false, false, false, false, false, false, false, false, false, false, false, false, false, false, false, false, false, false, false, false, false]
def x10a7 : Array Bool := #[true, true, true, true, false, true, true, true, false, false, false, false, false, false, false, false, false, false, false, false, false, false, false, false, false, false, false, false, false, false, false, false, false, false, false, false, false]
def x10a8 : Array Bool := #[true, true, true, true, true, true, true, true, false, false, false, false, false, false, false, false, false, false, false, false, false, false, false, false, false, false, false, false, false, false, false, false, false, false, false, false, false]
def x10a9 : Array Bool := #[true, true, true, true, true, true, true, true, true, false, false, false, false, false, false, false, false, false, false, false, false, false, false, false, false, false, false, false, false, false, false, false, false, false, false, false, false]
def x10a10 : Array Bool := #[true, true, true, true, true, true, true, true, true, true, false, false, false, false, false, false, false, false, false, false, false, false, false, false, false, false, false, false, false, false, false, false, false, false, false, false, false]
def x10a11 : Array Bool := #[true, true, true, true, true, true, true, true, true, true, true, false, false, false, false, false, false, false, false, false, false, false, false, false, false, false, false, false, false, false, false, false, false, false, false, false, false]
def x10a12 : Array Bool := #[true, true, true, true, true, true, true, true, true, true, true, true, false, false, false, false, false, false, false, false, false, false, false, false, false, false, false, false, false, false, false, false, false, false, false, false, false]
def x10a13 : Array Bool := #[true, true, true, true, true, true, true, true, true, true, true, true, true, false, false, false, false, false, false, false, false, false, false, false, false, false, false, false, false, false, false, false, false, false, false, false, false]
def x10a14 : Array Bool := #[true, true, true, true, true, true, true, true, true, true, true, true, true, true, false, false, false, false, false, false, false, false, false, false, false, false, false, false, false, false, false, false, false, false, false, false, false]
def x10a15 : Array Bool := #[true, true, true, true, true, true, true, true, true, true, true, true, true, true, true, false, false, false, false, false, false, false, false, false, false, false, false, false, false, false, false, false, false, false, false, false, false]
def x10a16 : Array Bool := #[true, true, true, true, true, true, true, true, true, true, true, true, true, true, true, true, false, false, false, false, false, false, false, false, false, false, false, false, false, false, false, false, false, false, false, false, false]
def x10a17 : Array Bool := #[true, true, true, true, true, true, true, true, true, true, true, true, true, true, true, true, true, false, false, false, false, false, false, false, false, false, false, false, false, false, false, false, false, false, false, false, false]
def x10a18 : Array Bool := #[true, true, true, true, true, true, true, true, true, true, true, true, true, true, true, true, true, true, false, false, false, false, false, false, false, false, false, false, false, false, false, false, false, false, false, false, false]
def x10a19 : Array Bool := #[true, true, true, true, true, true, true, true, true, true, true, true, true, true, true, true, true, true, true, false, false, false, false, false, false, false, false, false, false, false, false, false, false, false, false, false, false]
def x10a20 : Array Bool := #[true, true, true, true, true, true, true, true, true, true, true, true, true, true, true, true, true, true, true, true, false, false, false, false, false, false, false, false, false, false, false, false, false, false, false, false, false]
def x10a21 : Array Bool := #[true, true, true, true, true, true, true, true, true, true, true, true, true, true, true, true, true, true, true, true, true, false, false, false, false, false, false, false, false, false, false, false, false, false, false, false, false]
def x10a22 : Array Bool := #[true, true, true, true, true, true, true, true, true, true, true, true, true, true, true, true, true, true, true, true, true, true, false, false, false, false, false, false, false, false, false, false, false, false, false, false, false]
def x10a23 : Array Bool := #[true, true, true, true, true, true, true, true, true, true, true, true, true, true, true, true, true, true, true, true, true, true, true, false, false, false, false, false, false, false, false, false, false, false, false, false, false]
def x10a24 : Array Bool := #[true, true, true, true, true, true, true, true, true, true, true, true, true, true, true, true, true, true, true, true, true, true, true, true, false, false, false, false, false, false, false, false, false, false, false, false, false]
def x10a25 : Array Bool := #[true, true, true, true, true, true, true, true, true, true, true, true, true, true, true, true, true, true, true, true, true, true, true, true, true, false, false, false, false, false, false, false, false, false, false, false, false]
def x10a26 : Array Bool := #[true, true, true, true, true, true, true, true, true, true, true, true, true, true, true, true, true, true, true, true, true, true, true, true, true, true, false, false, false, false, false, false, false, false, false, false, false]
def x10a27 : Array Bool := #[true, true, true, true, true, true, true, true, true, true, true, true, true, true, true, true, true, true, true, true, true, true, true, true, true, true, true, false, false, false, false, false, false, false, false, false, false]
def x10a28 : Array Bool := #[true, true, true, true, true, true, true, true, true, true, true, true, true, true, true, true, true, true, true, true, true, true, true, true, true, true, true, true, false, false, false, false, false, false, false, false, false]
def x10a29 : Array Bool := #[true, true, true, true, true, true, true, true, true, true, true, true, true, true, true, true, true, true, true, true, true, true, true, true, true, true, true, true, true, false, false, false, false, false, false, false, false]
def x10a30 : Array Bool := #[true, true, true, true, true, true, true, true, true, true, true, true, true, true, true, true, true, true, true, true, true, true, true, true, true, true, true, true, true, true, false, false, false, false, false, false, false]
def x10a31 : Array Bool := #[true, true, true, true, true, true, true, true, true, true, true, true, true, true, true, true, true, true, true, true, true, true, true, true, true, true, true, true, true, true, true, false, false, false, false, false, false]
def x10a32 : Array Bool := #[true, true, true, true, true, true, true, true, true, true, true, true, true, true, true, true, true, true, true, true, true, true, true, true, true, true, true, true, true, true, true, true, false, false, false, false, false]
def x10a33 : Array Bool := #[true, true, true, true, true, true, true, true, true, true, true, true, true, true, true, true, true, true, true, true, true, true, true, true, true, true, true, true, true, true, true, true, true, false, false, false, false]
def x10a34 : Array Bool := #[true, true, true, true, true, true, true, true, true, true, true, true, true, true, true, true, true, true, true, true, true, true, true, true, true, true, true, true, true, true, true, true, true, true, false, false, false]
def x10a35 : Array Bool := #[true, true, true, true, true, true, true, true, true, true, true, true, true, true, true, true, true, true, true, true, true, true, true, true, true, true, true, true, true, true, true, true, true, true, true, false, false]
def x10a36 : Array Bool := #[true, true, true, true, true, true, true, true, true, true, true, true, true, true, true, true, true, true, true, true, true, true, true, true, true, true, true, true, true, true, true, true, true, true, true, true, false]
def x10a37 : Array Bool := #[true, true, true, true, true, true, true, true, true, true, true, true, true, true, true, true, true, true, true, true, true, true, true, true, true, true, true, true, true, true, true, true, true, true, true, true, true]
def x10a38 : Array Bool := #[true, true, true, true, true, true, true, true, true, true, true, true, true, true, true, false, true, false, false, false, false, false, false, false, false, false, false, false, false, false, false, false, false, false, false, false, false]
def x10a39 : Array Bool := #[true, true, true, true, true, true, true, true, true, true, true, true, true, true, true, false, true, true, false, false, false, false, false, false, false, false, false, false, false, false, false, false, false, false, false, false, false]
def x10a40 : Array Bool := #[true, true, true, true, true, true, true, true, true, true, true, true, true, true, true, false, true, true, true, false, false, false, false, false, false, false, false, false, false, false, false, false, false, false, false, false, false]
def x10a41 : Array Bool := #[true, true, true, true, true, true, true, true, true, true, true, true, true, true, true, false, true, true, true, true, false, false, false, false, false, false, false, false, false, false, false, false, false, false, false, false, false]
def x10a42 : Array Bool := #[true, true, true, true, true, true, true, true, true, true, true, true, true, true, true, true, true, true, true, true, true, true, true, true, true, true, true, true, true, true, true, false, false, true, false, false, false]
def x10a43 : Array Bool := #[true, true, true, true, true, true, true, true, true, true, true, true, true, true, true, true, true, true, true, true, true, true, true, true, true, true, true, true, true, true, true, true, false, true, false, false, false]
def x10a44 : Array Bool := #[false, false, false, false, false, false, false, false, false, false, false, false, false, false, false, false, false, false, false, false, false, false, false, false]
def x10a45 : Array Bool := #[true, false, false, false, false, false, false, false, false, false, false, false, false, false, false, false, false, false, false, false, false, false, false, false]
def x10a46 : Array Bool := #[true, true, false, false, false, false, false, false, false, false, false, false, false, false, false, false, false, false, false, false, false, false, false, false]
def x10a47 : Array Bool := #[true, true, true, false, false, false, false, false, false, false, false, false, false, false, false, false, false, false, false, false, false, false, false, false]
def x10a48 : Array Bool := #[true, true, true, false, false, true, false, false, false, false, false, false, false, false, false, false, false, false, false, false, false, false, false, false]
def x10a49 : Array Bool := #[true, true, true, false, false, true, true, false, false, false, false, false, false, false, false, false, false, false, false, false, false, false, false, false]
def x10a50 : Array Bool := #[true, true, true, false, false, true, true, true, false, false, false, false, false, false, false, false, false, false, false, false, false, false, false, false]
def x10a51 : Array Bool := #[true, true, true, true, false, true, true, true, false, false, false, false, false, false, false, false, false, false, false, false, false, false, false, false]
def x10a52 : Array Bool := #[true, true, true, true, true, true, true, true, false, false, false, false, false, false, false, false, false, false, false, false, false, false, false, false]
def x10a53 : Array Bool := #[true, true, true, true, true, true, true, true, true, false, false, false, false, false, false, false, false, false, false, false, false, false, false, false]
def x10a54 : Array Bool := #[true, true, true, true, true, true, true, true, true, true, false, false, false, false, false, false, false, false, false, false, false, false, false, false]
def x10a55 : Array Bool := #[true, true, true, true, true, true, true, true, true, true, true, false, false, false, false, false, false, false, false, false, false, false, false, false]
def x10a56 : Array Bool := #[true, true, true, true, true, true, true, true, true, true, true, true, false, false, false, false, false, false, false, false, false, false, false, false]
def x10a57 : Array Bool := #[true, true, true, true, true, true, true, true, true, true, true, true, true, false, false, false, false, false, false, false, false, false, false, false]
def x10a58 : Array Bool := #[true, true, true, true, true, true, true, true, true, true, true, true, true, false, true, false, false, false, false, false, false, false, false, false]
def x10a59 : Array Bool := #[true, true, true, true, true, true, true, true, true, true, true, true, true, false, true, false, true, false, false, false, false, false, false, false]
def x10a60 : Array Bool := #[true, true, true, true, true, true, true, true, true, true, true, true, true, false, true, false, true, true, false, false, false, false, false, false]
def x10a61 : Array Bool := #[true, true, true, true, true, true, true, true, true, true, true, true, true, false, true, false, true, true, true, false, false, false, false, false]
def x10a62 : Array Bool := #[true, true, true, true, true, true, true, true, true, true, true, true, true, false, true, false, true, true, true, false, true, false, false, false]
def x10a63 : Array Bool := #[true, true, true, true, true, true, true, true, true, true, true, true, true, true, true, false, true, true, true, false, true, false, false, false]
def x10a64 : Array Bool := #[true, true, true, true, true, true, true, true, true, true, true, true, true, true, true, true, true, true, true, false, true, false, false, false]
def x10a65 : Array Bool := #[true, true, true, true, true, true, true, true, true, true, true, true, true, true, true, true, true, true, true, true, true, false, false, false]
def x10a66 : Array Bool := #[true, true, true, true, true, true, true, true, true, true, true, true, true, true, true, true, true, true, true, true, true, true, false, false]
def x10a67 : Array Bool := #[true, true, true, true, true, true, true, true, true, true, true, true, true, true, true, true, true, true, true, true, true, true, true, false]
def x10a68 : Array Bool := #[true, true, true, true, true, true, true, true, true, true, true, true, true, true, true, true, true, true, true, true, true, true, true, true]
def x10a69 : Array Bool := #[false, false, false, false, false, false, false, false, false, false, false, false, false, false, false, false, false, false, false, false, false, false, false, false, false, false, false, false, false, false, false, false, false, false, false, false, false, false, false, false, false, false, false, false, false, false, false, false, false, false]
def x10a70 : Array Bool := #[true, false, false, false, false, false, false, false, false, false, false, false, false, false, false, false, false, false, false, false, false, false, false, false, false, false, false, false, false, false, false, false, false, false, false, false, false, false, false, false, false, false, false, false, false, false, false, false, false, false]
def x10a71 : Array Bool := #[true, true, false, false, false, false, false, false, false, false, false, false, false, false, false, false, false, false, false, false, false, false, false, false, false, false, false, false, false, false, false, false, false, false, false, false, false, false, false, false, false, false, false, false, false, false, false, false, false, false]
def x10a72 : Array Bool := #[true, true, true, false, false, false, false, false, false, false, false, false, false, false, false, false, false, false, false, false, false, false, false, false, false, false, false, false, false, false, false, false, false, false, false, false, false, false, false, false, false, false, false, false, false, false, false, false, false, false]
def x10a73 : Array Bool := #[true, true, true, false, true, false, false, false, false, false, false, false, false, false, false, false, false, false, false, false, false, false, false, false, false, false, false, false, false, false, false, false, false, false, false, false, false, false, false, false, false, false, false, false, false, false, false, false, false, false]
def x10a74 : Array Bool := #[true, true, true, false, true, true, false, false, false, false, false, false, false, false, false, false, false, false, false, false, false, false, false, false, false, false, false, false, false, false, false, false, false, false, false, false, false, false, false, false, false, false, false, false, false, false, false, false, false, false]
def x10a75 : Array Bool := #[true, true, true, false, true, true, true, false, false, false, false, false, false, false, false, false, false, false, false, false, false, false, false, false, false, false, false, false, false, false, false, false, false, false, false, false, false, false, false, false, false, false, false, false, false, false, false, false, false, false]
def x10a76 : Array Bool := #[true, true, true, false, true, true, true, true, false, false, false, false, false, false, false, false, false, false, false, false, false, false, false, false, false, false, false, false, false, false, false, false, false, false, false, false, false, false, false, false, false, false, false, false, false, false, false, false, false, false]
def x10a77 : Array Bool := #[true, true, true, true, true, true, true, true, false, false, false, false, false, false, false, false, false, false, false, false, false, false, false, false, false, false, false, false, false, false, false, false, false, false, false, false, false, false, false, false, false, false, false, false, false, false, false, false, false, false]
def x10a78 : Array Bool := #[true, true, true, true, true, true, true, true, true, false, false, false, false, false, false, false, false, false, false, false, false, false, false, false, false, false, false, false, false, false, false, false, false, false, false, false, false, false, false, false, false, false, false, false, false, false, false, false, false, false]
def x10a79 : Array Bool := #[true, true, true, true, true, true, true, true, true, true, false, false, false, false, false, false, false, false, false, false, false, false, false, false, false, false, false, false, false, false, false, false, false, false, false, false, false, false, false, false, false, false, false, false, false, false, false, false, false, false]
def x10a80 : Array Bool := #[true, true, true, true, true, true, true, true, true, true, true, false, false, false, false, false, false, false, false, false, false, false, false, false, false, false, false, false, false, false, false, false, false, false, false, false, false, false, false, false, false, false, false, false, false, false, false, false, false, false]
def x10a81 : Array Bool := #[true, true, true, true, true, true, true, true, true, true, true, true, false, false, false, false, false, false, false, false, false, false, false, false, false, false, false, false, false, false, false, false, false, false, false, false, false, false, false, false, false, false, false, false, false, false, false, false, false, false]
def x10a82 : Array Bool := #[true, true, true, true, true, true, true, true, true, true, true, true, true, false, false, false, false, false, false, false, false, false, false, false, false, false, false, false, false, false, false, false, false, false, false, false, false, false, false, false, false, false, false, false, false, false, false, false, false, false]
def x10a83 : Array Bool := #[true, true, true, true, true, true, true, true, true, true, true, true, true, true, false, false, false, false, false, false, false, false, false, false, false, false, false, false, false, false, false, false, false, false, false, false, false, false, false, false, false, false, false, false, false, false, false, false, false, false]
def x10a84 : Array Bool := #[true, true, true, true, true, true, true, true, true, true, true, true, true, true, true, false, false, false, false, false, false, false, false, false, false, false, false, false, false, false, false, false, false, false, false, false, false, false, false, false, false, false, false, false, false, false, false, false, false, false]
def x10a85 : Array Bool := #[true, true, true, true, true, true, true, true, true, true, true, true, true, true, true, true, false, false, false, false, false, false, false, false, false, false, false, false, false, false, false, false, false, false, false, false, false, false, false, false, false, false, false, false, false, false, false, false, false, false]
def x10a86 : Array Bool := #[true, true, true, true, true, true, true, true, true, true, true, true, true, true, true, true, true, false, false, false, false, false, false, false, false, false, false, false, false, false, false, false, false, false, false, false, false, false, false, false, false, false, false, false, false, false, false, false, false, false]
def x10a87 : Array Bool := #[true, true, true, true, true, true, true, true, true, true, true, true, true, true, true, true, true, true, false, false, false, false, false, false, false, false, false, false, false, false, false, false, false, false, false, false, false, false, false, false, false, false, false, false, false, false, false, false, false, false]
def x10a88 : Array Bool := #[true, true, true, true, true, true, true, true, true, true, true, true, true, true, true, true, true, true, true, false, false, false, false, false, false, false, false, false, false, false, false, false, false, false, false, false, false, false, false, false, false, false, false, false, false, false, false, false, false, false]
def x10a89 : Array Bool := #[true, true, true, true, true, true, true, true, true, true, true, true, true, true, true, true, true, true, true, true, false, false, false, false, false, false, false, false, false, false, false, false, false, false, false, false, false, false, false, false, false, false, false, false, false, false, false, false, false, false]
def x10a90 : Array Bool := #[true, true, true, true, true, true, true, true, true, true, true, true, true, true, true, true, true, true, true, true, true, false, false, false, false, false, false, false, false, false, false, false, false, false, false, false, false, false, false, false, false, false, false, false, false, false, false, false, false, false]
def x10a91 : Array Bool := #[true, true, true, true, true, true, true, true, true, true, true, true, true, true, true, true, true, true, true, true, true, true, false, false, false, false, false, false, false, false, false, false, false, false, false, false, false, false, false, false, false, false, false, false, false, false, false, false, false, false]
def x10a92 : Array Bool := #[true, true, true, true, true, true, true, true, true, true, true, true, true, true, true, true, true, true, true, true, true, true, true, false, false, false, false, false, false, false, false, false, false, false, false, false, false, false, false, false, false, false, false, false, false, false, false, false, false, false]
def x10a93 : Array Bool := #[true, true, true, true, true, true, true, true, true, true, true, true, true, true, true, true, true, true, true, true, true, true, true, true, false, false, false, false, false, false, false, false, false, false, false, false, false, false, false, false, false, false, false, false, false, false, false, false, false, false]
def x10a94 : Array Bool := #[true, true, true, true, true, true, true, true, true, true, true, true, true, true, true, true, true, true, true, true, true, true, true, true, true, false, false, false, false, false, false, false, false, false, false, false, false, false, false, false, false, false, false, false, false, false, false, false, false, false]
def x10a95 : Array Bool := #[true, true, true, true, true, true, true, true, true, true, true, true, true, true, true, true, true, true, true, true, true, true, true, true, true, true, false, false, false, false, false, false, false, false, false, false, false, false, false, false, false, false, false, false, false, false, false, false, false, false]
def x10a96 : Array Bool := #[true, true, true, true, true, true, true, true, true, true, true, true, true, true, true, true, true, true, true, true, true, true, true, true, true, true, true, false, false, false, false, false, false, false, false, false, false, false, false, false, false, false, false, false, false, false, false, false, false, false]
def x10a97 : Array Bool := #[true, true, true, true, true, true, true, true, true, true, true, true, true, true, true, true, true, true, true, true, true, true, true, true, true, true, true, true, false, false, false, false, false, false, false, false, false, false, false, false, false, false, false, false, false, false, false, false, false, false]
def x10a98 : Array Bool := #[true, true, true, true, true, true, true, true, true, true, true, true, true, true, true, true, true, true, true, true, true, true, true, true, true, true, true, true, false, true, false, false, false, false, false, false, false, false, false, false, false, false, false, false, false, false, false, false, false, false]
def x10a99 : Array Bool := #[true, true, true, true, true, true, true, true, true, true, true, true, true, true, true, true, true, true, true, true, true, true, true, true, true, true, true, true, false, true, true, false, false, false, false, false, false, false, false, false, false, false, false, false, false, false, false, false, false, false]
def x10a100 : Array Bool := #[true, true, true, true, true, true, true, true, true, true, true, true, true, true, true, true, true, true, true, true, true, true, true, true, true, true, true, true, false, true, true, true, false, false, false, false, false, false, false, false, false, false, false, false, false, false, false, false, false, false]
def x10a101 : Array Bool := #[true, true, true, true, true, true, true, true, true, true, true, true, true, true, true, true, true, true, true, true, true, true, true, true, true, true, true, true, false, true, true, true, true, false, false, false, false, false, false, false, false, false, false, false, false, false, false, false, false, false]
def x10a102 : Array Bool := #[true, true, true, true, true, true, true, true, true, true, true, true, true, true, true, true, true, true, true, true, true, true, true, true, true, true, true, true, true, true, true, true, true, false, false, false, false, false, false, false, false, false, false, false, false, false, false, false, false, false]
def x10a103 : Array Bool := #[true, true, true, true, true, true, true, true, true, true, true, true, true, true, true, true, true, true, true, true, true, true, true, true, true, true, true, true, true, true, true, true, true, true, false, false, false, false, false, false, false, false, false, false, false, false, false, false, false, false]
def x10a104 : Array Bool := #[true, true, true, true, true, true, true, true, true, true, true, true, true, true, true, true, true, true, true, true, true, true, true, true, true, true, true, true, true, true, true, true, true, true, true, false, false, false, false, false, false, false, false, false, false, false, false, false, false, false]
def x10a105 : Array Bool := #[true, true, true, true, true, true, true, true, true, true, true, true, true, true, true, true, true, true, true, true, true, true, true, true, true, true, true, true, true, true, true, true, true, true, true, true, false, false, false, false, false, false, false, false, false, false, false, false, false, false]
def x10a106 : Array Bool := #[true, true, true, true, true, true, true, true, true, true, true, true, true, true, true, true, true, true, true, true, true, true, true, true, true, true, true, true, true, true, true, true, true, true, true, true, true, false, false, false, false, false, false, false, false, false, false, false, false, false]
def x10a107 : Array Bool := #[true, true, true, true, true, true, true, true, true, true, true, true, true, true, true, true, true, true, true, true, true, true, true, true, true, true, true, true, true, true, true, true, true, true, true, true, true, true, false, false, false, false, false, false, false, false, false, false, false, false]
def x10a108 : Array Bool := #[true, true, true, true, true, true, true, true, true, true, true, true, true, true, true, true, true, true, true, true, true, true, true, true, true, true, true, true, true, true, true, true, true, true, true, true, true, true, true, false, false, false, false, false, false, false, false, false, false, false]
def x10a109 : Array Bool := #[true, true, true, true, true, true, true, true, true, true, true, true, true, true, true, true, true, true, true, true, true, true, true, true, true, true, true, true, true, true, true, true, true, true, true, true, true, true, true, true, false, false, false, false, false, false, false, false, false, false]
def x10a110 : Array Bool := #[true, true, true, true, true, true, true, true, true, true, true, true, true, true, true, true, true, true, true, true, true, true, true, true, true, true, true, true, true, true, true, true, true, true, true, true, true, true, true, true, true, false, false, false, false, false, false, false, false, false]
def x10a111 : Array Bool := #[true, true, true, true, true, true, true, true, true, true, true, true, true, true, true, true, true, true, true, true, true, true, true, true, true, true, true, true, true, true, true, true, true, true, true, true, true, true, true, true, true, true, false, false, false, false, false, false, false, false]
def x10a112 : Array Bool := #[true, true, true, true, true, true, true, true, true, true, true, true, true, true, true, true, true, true, true, true, true, true, true, true, true, true, true, true, true, true, true, true, true, true, true, true, true, true, true, true, true, true, true, false, false, false, false, false, false, false]
def x10a113 : Array Bool := #[true, true, true, true, true, true, true, true, true, true, true, true, true, true, true, true, true, true, true, true, true, true, true, true, true, true, true, true, true, true, true, true, true, true, true, true, true, true, true, true, true, true, true, true, false, false, false, false, false, false]
def x10a114 : Array Bool := #[true, true, true, true, true, true, true, true, true, true, true, true, true, true, true, true, true, true, true, true, true, true, true, true, true, true, true, true, true, true, true, true, true, true, true, true, true, true, true, true, true, true, true, true, true, false, false, false, false, false]
def x10a115 : Array Bool := #[true, true, true, true, true, true, true, true, true, true, true, true, true, true, true, true, true, true, true, true, true, true, true, true, true, true, true, true, true, true, true, true, true, true, true, true, true, true, true, true, true, true, true, true, true, true, false, false, false, false]
def x10a116 : Array Bool := #[true, true, true, true, true, true, true, true, true, true, true, true, true, true, true, true, true, true, true, true, true, true, true, true, true, true, true, true, true, true, true, true, true, true, true, true, true, true, true, true, true, true, true, true, true, true, true, false, false, false]
def x10a117 : Array Bool := #[true, true, true, true, true, true, true, true, true, true, true, true, true, true, true, true, true, true, true, true, true, true, true, true, true, true, true, true, true, true, true, true, true, true, true, true, true, true, true, true, true, true, true, true, true, true, true, true, false, false]
def x10a118 : Array Bool := #[true, true, true, true, true, true, true, true, true, true, true, true, true, true, true, true, true, true, true, true, true, true, true, true, true, true, true, true, true, true, true, true, true, true, true, true, true, true, true, true, true, true, true, true, true, true, true, true, true, false]
def x10a119 : Array Bool := #[true, true, true, true, true, true, true, true, true, true, true, true, true, true, true, true, true, true, true, true, true, true, true, true, true, true, true, true, true, true, true, true, true, true, true, true, true, true, true, true, true, true, true, true, true, true, true, true, true, true]

/-! ### laws_FnStepsAdapt: function 4 -/
mutual
def laws_FnStepsAdapt.j0 : Nat → List Int → List Int → Int → List Int → Bool → List Int → Bool → Int → List Int → Bool → Option (Bool)
 | 0, _, _, _, _, _, _, _, _, _, _ => none
 | k + 1, x1, x5, x6, x7, x8, x11, x12, x15, x19, x167 => if x167 = true then (some false) else (if x8 = true then ((impl_StepValues.f k x7 x6).bind fun bt526 => (if (x7.length : Int) = (x5.length : Int) then (if bt526.2 = true then (laws_FnStepsAdapt.l0 k x1 x5 x6 x7 x11 x12 x15 x19 bt526.1 0 x5 (x5.length : Int) 0) else (laws_FnStepsAdapt.j2 k x1 x5 x6 x19)) else (some false))) else (laws_FnStepsAdapt.j4 k x1))
def laws_FnStepsAdapt.j4 : Nat → List Int → Option (Bool)
 | 0, _ => none
 | k + 1, x1 => (spec_DrawStepsOfBits.f k x1).bind fun bt547 => ((impl_StepsOfBits.f k bt547.1 bt547.2).bind fun bt551 => ((spec_StepsOfBits.f k bt547.1 bt547.2).bind fun bt555 => ((impl_StepValues.f k bt547.1 bt547.2).bind fun bt559 => ((spec_StepValues.f k bt547.1 bt547.2).bind fun bt563 => ((spec_DrawFixedValues.f k x1).bind fun bt567 => ((impl_FixedValues.f k bt567.1 bt567.2).bind fun bt571 => ((spec_FixedValues.f k bt567.1 bt567.2).bind fun bt575 => (if (bt551.2 != bt555.2) = true then (laws_FnStepsAdapt.j5 k bt547.1 bt547.2 bt551.1 bt551.2 bt559.1 bt559.2 true) else ((laws_uSame.f k bt551.1 bt555.1).bind fun t579 => (if t579 = true then (if (bt559.2 != bt563.2) = true then (laws_FnStepsAdapt.j5 k bt547.1 bt547.2 bt551.1 bt551.2 bt559.1 bt559.2 true) else ((laws_uSame.f k bt559.1 bt563.1).bind fun t580 => (if t580 = true then (if (bt571.2 != bt575.2) = true then (laws_FnStepsAdapt.j5 k bt547.1 bt547.2 bt551.1 bt551.2 bt559.1 bt559.2 true) else ((laws_uSame.f k bt571.1 bt575.1).bind fun t581 => (laws_FnStepsAdapt.j5 k bt547.1 bt547.2 bt551.1 bt551.2 bt559.1 bt559.2 (!t581)))) else (laws_FnStepsAdapt.j5 k bt547.1 bt547.2 bt551.1 bt551.2 bt559.1 bt559.2 true)))) else (laws_FnStepsAdapt.j5 k bt547.1 bt547.2 bt551.1 bt551.2 bt559.1 bt559.2 true)))))))))))
def laws_FnStepsAdapt.j5 : Nat → List Int → Int → List Int → Bool → List Int → Bool → Bool → Option (Bool)
 | 0, _, _, _, _, _, _, _ => none
 | k + 1, x33, x34, x35, x36, x39, x40, x349 => if x349 = true then (some false) else (if x36 = true then (laws_FnStepsAdapt.l2 k x33 x34 x35 x36 x39 x40 x35 (x35.length : Int) 0) else (laws_FnStepsAdapt.j8 k x33 x35 x36 x39 x40))
def laws_FnStepsAdapt.j8 : Nat → List Int → List Int → Bool → List Int → Bool → Option (Bool)
 | 0, _, _, _, _, _ => none
 | k + 1, x33, x35, x36, x39, x40 => if x36 = true then (laws_FnStepsAdapt.j9 k x33 x35 x39 x40) else (laws_FnStepsAdapt.j9 k x33 x35 x39 false)
def laws_FnStepsAdapt.j9 : Nat → List Int → List Int → List Int → Bool → Option (Bool)
 | 0, _, _, _, _ => none
 | k + 1, x33, x35, x39, x429 => if x429 = true then (laws_FnStepsAdapt.l3 k x33 x39 0 x35 (x35.length : Int) 0) else (some true)
def laws_FnStepsAdapt.l3 : Nat → List Int → List Int → Int → List Int → Int → Int → Option (Bool)
 | 0, _, _, _, _, _, _ => none
 | k + 1, x33, x39, x51, x430, x431, x432 => if x432 < x431 then (if 0 ≤ x432 then (if x432 < (x430.length : Int) then (if x432 < (x33.length : Int) then (if x432 < (x39.length : Int) then (if (rd x39 x432) = (wrap64 (x51 + (wrap64 ((rd x430 x432) * (rd x33 x432))))) then (laws_FnStepsAdapt.l3 k x33 x39 (wrap64 (x51 + (wrap64 ((rd x430 x432) * (rd x33 x432))))) x430 x431 (wrap64 (x432 + 1))) else (some false)) else (none)) else (none)) else (none)) else (none)) else (some true)
def laws_FnStepsAdapt.l2 : Nat → List Int → Int → List Int → Bool → List Int → Bool → List Int → Int → Int → Option (Bool)
 | 0, _, _, _, _, _, _, _, _, _ => none
 | k + 1, x33, x34, x35, x36, x39, x40, x351, x352, x353 => if x353 < x352 then (if 0 ≤ x353 then (if x353 < (x351.length : Int) then (if (rd x351 x353) < 1 then (laws_FnStepsAdapt.j7 k x33 x34 x35 x36 x39 x40 x353 (rd x351 x353) x351 x352 x353 true) else (if (rd x351 x353) > 4096 then (laws_FnStepsAdapt.j7 k x33 x34 x35 x36 x39 x40 x353 (rd x351 x353) x351 x352 x353 true) else (if x353 = 0 then (laws_FnStepsAdapt.j7 k x33 x34 x35 x36 x39 x40 x353 (rd x351 x353) x351 x352 x353 ((rd x351 x353) != x34)) else (laws_FnStepsAdapt.j7 k x33 x34 x35 x36 x39 x40 x353 (rd x351 x353) x351 x352 x353 false)))) else (none)) else (none)) else (laws_FnStepsAdapt.j8 k x33 x35 x36 x39 x40)
def laws_FnStepsAdapt.j7 : Nat → List Int → Int → List Int → Bool → List Int → Bool → Int → Int → List Int → Int → Int → Bool → Option (Bool)
 | 0, _, _, _, _, _, _, _, _, _, _, _, _ => none
 | k + 1, x33, x34, x35, x36, x39, x40, x49, x50, x351, x352, x353, x372 => if x372 = true then (some false) else (if x49 = 0 then (laws_FnStepsAdapt.l2 k x33 x34 x35 x36 x39 x40 x351 x352 (wrap64 (x353 + 1))) else (if 0 ≤ x49 then (if x49 < (x33.length : Int) then (if 0 ≤ (wrap64 (x49 - 1)) then (if (wrap64 (x49 - 1)) < (x33.length : Int) then (if (rd x33 x49) = (rd x33 (wrap64 (x49 - 1))) then (if (wrap64 (x49 - 1)) < (x35.length : Int) then (if x50 = (wrap64 (2 * (rd x35 (wrap64 (x49 - 1))))) then (laws_FnStepsAdapt.l2 k x33 x34 x35 x36 x39 x40 x351 x352 (wrap64 (x353 + 1))) else (if x50 = 4096 then (laws_FnStepsAdapt.l2 k x33 x34 x35 x36 x39 x40 x351 x352 (wrap64 (x353 + 1))) else (some false))) else (none)) else (if (wrap64 (x49 - 1)) < (x35.length : Int) then (if x50 = (wrap64 (Int.tdiv (rd x35 (wrap64 (x49 - 1))) 2)) then (laws_FnStepsAdapt.l2 k x33 x34 x35 x36 x39 x40 x351 x352 (wrap64 (x353 + 1))) else (if x50 = 1 then (laws_FnStepsAdapt.l2 k x33 x34 x35 x36 x39 x40 x351 x352 (wrap64 (x353 + 1))) else (some false))) else (none))) else (none)) else (none)) else (none)) else (none)))
def laws_FnStepsAdapt.j2 : Nat → List Int → List Int → Int → List Int → Option (Bool)
 | 0, _, _, _, _ => none
 | k + 1, x1, x5, x6, x19 => (impl_FixedValues.f k x19 x6).bind fun bt538 => (if bt538.2 = true then (laws_FnStepsAdapt.l1 k x1 x6 x19 bt538.1 0 x5 (x5.length : Int) 0) else (laws_FnStepsAdapt.j4 k x1))
def laws_FnStepsAdapt.l1 : Nat → List Int → Int → List Int → List Int → Int → List Int → Int → Int → Option (Bool)
 | 0, _, _, _, _, _, _, _, _ => none
 | k + 1, x1, x6, x19, x28, x30, x237, x238, x239 => if x239 < x238 then (if 0 ≤ x239 then (if x239 < (x237.length : Int) then (if x239 < (x19.length : Int) then (if (((rd x19 x239) == 1) != (decide ((rd x237 x239) ≥ x30))) = true then (some false) else (if x239 < (x28.length : Int) then (if (wrap64 ((rd x28 x239) - x30)) = (wrap64 ((rd x19 x239) * x6)) then (laws_FnStepsAdapt.l1 k x1 x6 x19 x28 (rd x28 x239) x237 x238 (wrap64 (x239 + 1))) else (some false)) else (none))) else (none)) else (none)) else (none)) else (laws_FnStepsAdapt.j4 k x1)
def laws_FnStepsAdapt.l0 : Nat → List Int → List Int → Int → List Int → List Int → Bool → Int → List Int → List Int → Int → List Int → Int → Int → Option (Bool)
 | 0, _, _, _, _, _, _, _, _, _, _, _, _, _ => none
 | k + 1, x1, x5, x6, x7, x11, x12, x15, x19, x23, x25, x181, x182, x183 => if x183 < x182 then (if 0 ≤ x183 then (if x183 < (x181.length : Int) then (if x183 < (x7.length : Int) then (if (((rd x7 x183) == 1) != (decide ((rd x181 x183) ≥ x25))) = true then (some false) else (if x12 = true then (if x183 < (x11.length : Int) then (if x183 < (x23.length : Int) then (if (rd x11 x183) = (wrap64 ((rd x181 x183) - (rd x23 x183))) then ((laws_uAbs.f (rd x11 x183)).bind fun t535 => (if t535 > x15 then (some false) else (laws_FnStepsAdapt.l0 k x1 x5 x6 x7 x11 x12 x15 x19 x23 (rd x23 x183) x181 x182 (wrap64 (x183 + 1))))) else (some false)) else (none)) else (none)) else (if x183 < (x23.length : Int) then (laws_FnStepsAdapt.l0 k x1 x5 x6 x7 x11 x12 x15 x19 x23 (rd x23 x183) x181 x182 (wrap64 (x183 + 1))) else (none)))) else (none)) else (none)) else (none)) else (laws_FnStepsAdapt.j2 k x1 x5 x6 x19)
end
def laws_FnStepsAdapt.f (k : Nat) (l0 : List Int) (l1 : List Int) : Option (Bool) := (laws_big.f l0 l1).bind fun t490 => (if t490 = true then (some true) else ((spec_DrawStepBits.f k l0).bind fun bt491 => ((impl_StepBits.f k bt491.1 bt491.2).bind fun bt495 => ((spec_StepBits.f k bt491.1 bt491.2).bind fun bt499 => ((impl_StepGaps.f k bt491.1 bt491.2).bind fun bt503 => ((spec_StepGaps.f k bt491.1 bt491.2).bind fun bt507 => ((impl_GreatestGap.f k bt491.1 bt491.2).bind fun bt511 => ((spec_GreatestGap.f k bt491.1 bt491.2).bind fun bt513 => ((impl_FixedBits.f k bt491.1 bt491.2).bind fun bt515 => ((spec_FixedBits.f k bt491.1 bt491.2).bind fun bt519 => (if (bt495.2 != bt499.2) = true then (laws_FnStepsAdapt.j0 k l1 bt491.1 bt491.2 bt495.1 bt495.2 bt503.1 bt503.2 bt511.1 bt515.1 true) else ((laws_uSame.f k bt495.1 bt499.1).bind fun t523 => (if t523 = true then (if (bt503.2 != bt507.2) = true then (laws_FnStepsAdapt.j0 k l1 bt491.1 bt491.2 bt495.1 bt495.2 bt503.1 bt503.2 bt511.1 bt515.1 true) else ((laws_uSame.f k bt503.1 bt507.1).bind fun t524 => (if t524 = true then (if (bt511.2 != bt513.2) = true then (laws_FnStepsAdapt.j0 k l1 bt491.1 bt491.2 bt495.1 bt495.2 bt503.1 bt503.2 bt511.1 bt515.1 true) else (if bt511.1 = bt513.1 then (if (bt515.2 != bt519.2) = true then (laws_FnStepsAdapt.j0 k l1 bt491.1 bt491.2 bt495.1 bt495.2 bt503.1 bt503.2 bt511.1 bt515.1 true) else ((laws_uSame.f k bt515.1 bt519.1).bind fun t525 => (if t525 = true then (if (bt511.2 != bt503.2) = true then (laws_FnStepsAdapt.j0 k l1 bt491.1 bt491.2 bt495.1 bt495.2 bt503.1 bt503.2 bt511.1 bt515.1 true) else (if (bt515.2 != bt495.2) = true then (laws_FnStepsAdapt.j0 k l1 bt491.1 bt491.2 bt495.1 bt495.2 bt503.1 bt503.2 bt511.1 bt515.1 true) else (if bt503.2 = true then (laws_FnStepsAdapt.j0 k l1 bt491.1 bt491.2 bt495.1 bt495.2 bt503.1 bt503.2 bt511.1 bt515.1 (!bt495.2)) else (laws_FnStepsAdapt.j0 k l1 bt491.1 bt491.2 bt495.1 bt495.2 bt503.1 bt503.2 bt511.1 bt515.1 false)))) else (laws_FnStepsAdapt.j0 k l1 bt491.1 bt491.2 bt495.1 bt495.2 bt503.1 bt503.2 bt511.1 bt515.1 true)))) else (laws_FnStepsAdapt.j0 k l1 bt491.1 bt491.2 bt495.1 bt495.2 bt503.1 bt503.2 bt511.1 bt515.1 true))) else (laws_FnStepsAdapt.j0 k l1 bt491.1 bt491.2 bt495.1 bt495.2 bt503.1 bt503.2 bt511.1 bt515.1 true)))) else (laws_FnStepsAdapt.j0 k l1 bt491.1 bt491.2 bt495.1 bt495.2 bt503.1 bt503.2 bt511.1 bt515.1 true))))))))))))))
theorem laws_FnStepsAdapt.mono_l : ∀ k, (∀ y0 y1 y2 y3 y4 y5 y6 y7 y8 y9, LeO (laws_FnStepsAdapt.j0 k y0 y1 y2 y3 y4 y5 y6 y7 y8 y9) (laws_FnStepsAdapt.j0 (k + 1) y0 y1 y2 y3 y4 y5 y6 y7 y8 y9)) ∧ (∀ y0, LeO (laws_FnStepsAdapt.j4 k y0) (laws_FnStepsAdapt.j4 (k + 1) y0)) ∧ (∀ y0 y1 y2 y3 y4 y5 y6, LeO (laws_FnStepsAdapt.j5 k y0 y1 y2 y3 y4 y5 y6) (laws_FnStepsAdapt.j5 (k + 1) y0 y1 y2 y3 y4 y5 y6)) ∧ (∀ y0 y1 y2 y3 y4, LeO (laws_FnStepsAdapt.j8 k y0 y1 y2 y3 y4) (laws_FnStepsAdapt.j8 (k + 1) y0 y1 y2 y3 y4)) ∧ (∀ y0 y1 y2 y3, LeO (laws_FnStepsAdapt.j9 k y0 y1 y2 y3) (laws_FnStepsAdapt.j9 (k + 1) y0 y1 y2 y3)) ∧ (∀ y0 y1 y2 y3 y4 y5, LeO (laws_FnStepsAdapt.l3 k y0 y1 y2 y3 y4 y5) (laws_FnStepsAdapt.l3 (k + 1) y0 y1 y2 y3 y4 y5)) ∧ (∀ y0 y1 y2 y3 y4 y5 y6 y7 y8, LeO (laws_FnStepsAdapt.l2 k y0 y1 y2 y3 y4 y5 y6 y7 y8) (laws_FnStepsAdapt.l2 (k + 1) y0 y1 y2 y3 y4 y5 y6 y7 y8)) ∧ (∀ y0 y1 y2 y3 y4 y5 y6 y7 y8 y9 y10 y11, LeO (laws_FnStepsAdapt.j7 k y0 y1 y2 y3 y4 y5 y6 y7 y8 y9 y10 y11) (laws_FnStepsAdapt.j7 (k + 1) y0 y1 y2 y3 y4 y5 y6 y7 y8 y9 y10 y11)) ∧ (∀ y0 y1 y2 y3, LeO (laws_FnStepsAdapt.j2 k y0 y1 y2 y3) (laws_FnStepsAdapt.j2 (k + 1) y0 y1 y2 y3)) ∧ (∀ y0 y1 y2 y3 y4 y5 y6 y7, LeO (laws_FnStepsAdapt.l1 k y0 y1 y2 y3 y4 y5 y6 y7) (laws_FnStepsAdapt.l1 (k + 1) y0 y1 y2 y3 y4 y5 y6 y7)) ∧ (∀ y0 y1 y2 y3 y4 y5 y6 y7 y8 y9 y10 y11 y12, LeO (laws_FnStepsAdapt.l0 k y0 y1 y2 y3 y4 y5 y6 y7 y8 y9 y10 y11 y12) (laws_FnStepsAdapt.l0 (k + 1) y0 y1 y2 y3 y4 y5 y6 y7 y8 y9 y10 y11 y12))
 | 0 => ⟨fun _ _ _ _ _ _ _ _ _ _ r h => by simp [laws_FnStepsAdapt.j0] at h, fun _ r h => by simp [laws_FnStepsAdapt.j4] at h, fun _ _ _ _ _ _ _ r h => by simp [laws_FnStepsAdapt.j5] at h, fun _ _ _ _ _ r h => by simp [laws_FnStepsAdapt.j8] at h, fun _ _ _ _ r h => by simp [laws_FnStepsAdapt.j9] at h, fun _ _ _ _ _ _ r h => by simp [laws_FnStepsAdapt.l3] at h, fun _ _ _ _ _ _ _ _ _ r h => by simp [laws_FnStepsAdapt.l2] at h, fun _ _ _ _ _ _ _ _ _ _ _ _ r h => by simp [laws_FnStepsAdapt.j7] at h, fun _ _ _ _ r h => by simp [laws_FnStepsAdapt.j2] at h, fun _ _ _ _ _ _ _ _ r h => by simp [laws_FnStepsAdapt.l1] at h, fun _ _ _ _ _ _ _ _ _ _ _ _ _ r h => by simp [laws_FnStepsAdapt.l0] at h⟩
 | k + 1 => by
  obtain ⟨ih0, ih1, ih2, ih3, ih4, ih5, ih6, ih7, ih8, ih9, ih10⟩ := laws_FnStepsAdapt.mono_l k
  refine ⟨?_, ?_, ?_, ?_, ?_, ?_, ?_, ?_, ?_, ?_, ?_⟩
  ·intro y0 y1 y2 y3 y4 y5 y6 y7 y8 y9
   unfold laws_FnStepsAdapt.j0
   repeat' first
   | (with_reducible exact ih0 _ _ _ _ _ _ _ _ _ _)
   | (with_reducible exact ih1 _)
   | (with_reducible exact ih2 _ _ _ _ _ _ _)
   | (with_reducible exact ih3 _ _ _ _ _)
   | (with_reducible exact ih4 _ _ _ _)
   | (with_reducible exact ih5 _ _ _ _ _ _)
   | (with_reducible exact ih6 _ _ _ _ _ _ _ _ _)
   | (with_reducible exact ih7 _ _ _ _ _ _ _ _ _ _ _ _)
   | (with_reducible exact ih8 _ _ _ _)
   | (with_reducible exact ih9 _ _ _ _ _ _ _ _)
   | (with_reducible exact ih10 _ _ _ _ _ _ _ _ _ _ _ _ _)
   | (with_reducible exact impl_FixedBits.mono _ _ _)
   | (with_reducible exact impl_FixedValues.mono _ _ _)
   | (with_reducible exact impl_GreatestGap.mono _ _ _)
   | (with_reducible exact impl_StepBits.mono _ _ _)
   | (with_reducible exact impl_StepGaps.mono _ _ _)
   | (with_reducible exact impl_StepValues.mono _ _ _)
   | (with_reducible exact impl_StepsOfBits.mono _ _ _)
   | (with_reducible exact laws_uSame.mono _ _ _)
   | (with_reducible exact spec_DrawFixedValues.mono _ _)
   | (with_reducible exact spec_DrawStepBits.mono _ _)
   | (with_reducible exact spec_DrawStepsOfBits.mono _ _)
   | (with_reducible exact spec_FixedBits.mono _ _ _)
   | (with_reducible exact spec_FixedValues.mono _ _ _)
   | (with_reducible exact spec_GreatestGap.mono _ _ _)
   | (with_reducible exact spec_StepBits.mono _ _ _)
   | (with_reducible exact spec_StepGaps.mono _ _ _)
   | (with_reducible exact spec_StepValues.mono _ _ _)
   | (with_reducible exact spec_StepsOfBits.mono _ _ _)
   | (with_reducible exact LeO.refl _)
   | (with_reducible exact LeO.none _)
   | (with_reducible refine LeO.ite ?_ ?_)
   | (with_reducible refine LeO.bind ?_ (fun _ => ?_))
   | exact ih0 _ _ _ _ _ _ _ _ _ _
   | exact ih1 _
   | exact ih2 _ _ _ _ _ _ _
   | exact ih3 _ _ _ _ _
   | exact ih4 _ _ _ _
   | exact ih5 _ _ _ _ _ _
   | exact ih6 _ _ _ _ _ _ _ _ _
   | exact ih7 _ _ _ _ _ _ _ _ _ _ _ _
   | exact ih8 _ _ _ _
   | exact ih9 _ _ _ _ _ _ _ _
   | exact ih10 _ _ _ _ _ _ _ _ _ _ _ _ _
   | exact impl_FixedBits.mono _ _ _
   | exact impl_FixedValues.mono _ _ _
   | exact impl_GreatestGap.mono _ _ _
   | exact impl_StepBits.mono _ _ _
   | exact impl_StepGaps.mono _ _ _
   | exact impl_StepValues.mono _ _ _
   | exact impl_StepsOfBits.mono _ _ _
   | exact laws_uSame.mono _ _ _
   | exact spec_DrawFixedValues.mono _ _
   | exact spec_DrawStepBits.mono _ _
   | exact spec_DrawStepsOfBits.mono _ _
   | exact spec_FixedBits.mono _ _ _
   | exact spec_FixedValues.mono _ _ _
   | exact spec_GreatestGap.mono _ _ _
   | exact spec_StepBits.mono _ _ _
   | exact spec_StepGaps.mono _ _ _
   | exact spec_StepValues.mono _ _ _
   | exact spec_StepsOfBits.mono _ _ _
   | exact LeO.none _
   | refine LeO.ite ?_ ?_
   | refine LeO.bind ?_ (fun _ => ?_)
  ·intro y0
   unfold laws_FnStepsAdapt.j4
   repeat' first
   | (with_reducible exact ih0 _ _ _ _ _ _ _ _ _ _)
   | (with_reducible exact ih1 _)
   | (with_reducible exact ih2 _ _ _ _ _ _ _)
   | (with_reducible exact ih3 _ _ _ _ _)
   | (with_reducible exact ih4 _ _ _ _)
   | (with_reducible exact ih5 _ _ _ _ _ _)
   | (with_reducible exact ih6 _ _ _ _ _ _ _ _ _)
   | (with_reducible exact ih7 _ _ _ _ _ _ _ _ _ _ _ _)
   | (with_reducible exact ih8 _ _ _ _)
   | (with_reducible exact ih9 _ _ _ _ _ _ _ _)
   | (with_reducible exact ih10 _ _ _ _ _ _ _ _ _ _ _ _ _)
   | (with_reducible exact impl_FixedBits.mono _ _ _)
   | (with_reducible exact impl_FixedValues.mono _ _ _)
   | (with_reducible exact impl_GreatestGap.mono _ _ _)
   | (with_reducible exact impl_StepBits.mono _ _ _)
   | (with_reducible exact impl_StepGaps.mono _ _ _)
   | (with_reducible exact impl_StepValues.mono _ _ _)
   | (with_reducible exact impl_StepsOfBits.mono _ _ _)
   | (with_reducible exact laws_uSame.mono _ _ _)
   | (with_reducible exact spec_DrawFixedValues.mono _ _)
   | (with_reducible exact spec_DrawStepBits.mono _ _)
   | (with_reducible exact spec_DrawStepsOfBits.mono _ _)
   | (with_reducible exact spec_FixedBits.mono _ _ _)
   | (with_reducible exact spec_FixedValues.mono _ _ _)
   | (with_reducible exact spec_GreatestGap.mono _ _ _)
   | (with_reducible exact spec_StepBits.mono _ _ _)
   | (with_reducible exact spec_StepGaps.mono _ _ _)
   | (with_reducible exact spec_StepValues.mono _ _ _)
   | (with_reducible exact spec_StepsOfBits.mono _ _ _)
   | (with_reducible exact LeO.refl _)
   | (with_reducible exact LeO.none _)
   | (with_reducible refine LeO.ite ?_ ?_)
   | (with_reducible refine LeO.bind ?_ (fun _ => ?_))
   | exact ih0 _ _ _ _ _ _ _ _ _ _
   | exact ih1 _
   | exact ih2 _ _ _ _ _ _ _
   | exact ih3 _ _ _ _ _
   | exact ih4 _ _ _ _
   | exact ih5 _ _ _ _ _ _
   | exact ih6 _ _ _ _ _ _ _ _ _
   | exact ih7 _ _ _ _ _ _ _ _ _ _ _ _
   | exact ih8 _ _ _ _
   | exact ih9 _ _ _ _ _ _ _ _
   | exact ih10 _ _ _ _ _ _ _ _ _ _ _ _ _
   | exact impl_FixedBits.mono _ _ _
   | exact impl_FixedValues.mono _ _ _
   | exact impl_GreatestGap.mono _ _ _
   | exact impl_StepBits.mono _ _ _
   | exact impl_StepGaps.mono _ _ _
   | exact impl_StepValues.mono _ _ _
   | exact impl_StepsOfBits.mono _ _ _
   | exact laws_uSame.mono _ _ _
   | exact spec_DrawFixedValues.mono _ _
   | exact spec_DrawStepBits.mono _ _
   | exact spec_DrawStepsOfBits.mono _ _
   | exact spec_FixedBits.mono _ _ _
   | exact spec_FixedValues.mono _ _ _
   | exact spec_GreatestGap.mono _ _ _
   | exact spec_StepBits.mono _ _ _
   | exact spec_StepGaps.mono _ _ _
   | exact spec_StepValues.mono _ _ _
   | exact spec_StepsOfBits.mono _ _ _
   | exact LeO.none _
   | refine LeO.ite ?_ ?_
   | refine LeO.bind ?_ (fun _ => ?_)
  ·intro y0 y1 y2 y3 y4 y5 y6
   unfold laws_FnStepsAdapt.j5
   repeat' first
   | (with_reducible exact ih0 _ _ _ _ _ _ _ _ _ _)
   | (with_reducible exact ih1 _)
   | (with_reducible exact ih2 _ _ _ _ _ _ _)
   | (with_reducible exact ih3 _ _ _ _ _)
   | (with_reducible exact ih4 _ _ _ _)
   | (with_reducible exact ih5 _ _ _ _ _ _)
   | (with_reducible exact ih6 _ _ _ _ _ _ _ _ _)
   | (with_reducible exact ih7 _ _ _ _ _ _ _ _ _ _ _ _)
   | (with_reducible exact ih8 _ _ _ _)
   | (with_reducible exact ih9 _ _ _ _ _ _ _ _)
   | (with_reducible exact ih10 _ _ _ _ _ _ _ _ _ _ _ _ _)
   | (with_reducible exact impl_FixedBits.mono _ _ _)
   | (with_reducible exact impl_FixedValues.mono _ _ _)
   | (with_reducible exact impl_GreatestGap.mono _ _ _)
   | (with_reducible exact impl_StepBits.mono _ _ _)
   | (with_reducible exact impl_StepGaps.mono _ _ _)
   | (with_reducible exact impl_StepValues.mono _ _ _)
   | (with_reducible exact impl_StepsOfBits.mono _ _ _)
   | (with_reducible exact laws_uSame.mono _ _ _)
   | (with_reducible exact spec_DrawFixedValues.mono _ _)
   | (with_reducible exact spec_DrawStepBits.mono _ _)
   | (with_reducible exact spec_DrawStepsOfBits.mono _ _)
   | (with_reducible exact spec_FixedBits.mono _ _ _)
   | (with_reducible exact spec_FixedValues.mono _ _ _)
   | (with_reducible exact spec_GreatestGap.mono _ _ _)
   | (with_reducible exact spec_StepBits.mono _ _ _)
   | (with_reducible exact spec_StepGaps.mono _ _ _)
   | (with_reducible exact spec_StepValues.mono _ _ _)
   | (with_reducible exact spec_StepsOfBits.mono _ _ _)
   | (with_reducible exact LeO.refl _)
   | (with_reducible exact LeO.none _)
   | (with_reducible refine LeO.ite ?_ ?_)
   | (with_reducible refine LeO.bind ?_ (fun _ => ?_))
   | exact ih0 _ _ _ _ _ _ _ _ _ _
   | exact ih1 _
   | exact ih2 _ _ _ _ _ _ _
   | exact ih3 _ _ _ _ _
   | exact ih4 _ _ _ _
   | exact ih5 _ _ _ _ _ _
   | exact ih6 _ _ _ _ _ _ _ _ _
   | exact ih7 _ _ _ _ _ _ _ _ _ _ _ _
   | exact ih8 _ _ _ _
   | exact ih9 _ _ _ _ _ _ _ _
   | exact ih10 _ _ _ _ _ _ _ _ _ _ _ _ _
   | exact impl_FixedBits.mono _ _ _
   | exact impl_FixedValues.mono _ _ _
   | exact impl_GreatestGap.mono _ _ _
   | exact impl_StepBits.mono _ _ _
   | exact impl_StepGaps.mono _ _ _
   | exact impl_StepValues.mono _ _ _
   | exact impl_StepsOfBits.mono _ _ _
   | exact laws_uSame.mono _ _ _
   | exact spec_DrawFixedValues.mono _ _
   | exact spec_DrawStepBits.mono _ _
   | exact spec_DrawStepsOfBits.mono _ _
   | exact spec_FixedBits.mono _ _ _
   | exact spec_FixedValues.mono _ _ _
   | exact spec_GreatestGap.mono _ _ _
   | exact spec_StepBits.mono _ _ _
   | exact spec_StepGaps.mono _ _ _
   | exact spec_StepValues.mono _ _ _
   | exact spec_StepsOfBits.mono _ _ _
   | exact LeO.none _
   | refine LeO.ite ?_ ?_
   | refine LeO.bind ?_ (fun _ => ?_)
  ·intro y0 y1 y2 y3 y4
   unfold laws_FnStepsAdapt.j8
   repeat' first
   | (with_reducible exact ih0 _ _ _ _ _ _ _ _ _ _)
   | (with_reducible exact ih1 _)
   | (with_reducible exact ih2 _ _ _ _ _ _ _)
   | (with_reducible exact ih3 _ _ _ _ _)
   | (with_reducible exact ih4 _ _ _ _)
   | (with_reducible exact ih5 _ _ _ _ _ _)
   | (with_reducible exact ih6 _ _ _ _ _ _ _ _ _)
   | (with_reducible exact ih7 _ _ _ _ _ _ _ _ _ _ _ _)
   | (with_reducible exact ih8 _ _ _ _)
   | (with_reducible exact ih9 _ _ _ _ _ _ _ _)
   | (with_reducible exact ih10 _ _ _ _ _ _ _ _ _ _ _ _ _)
   | (with_reducible exact impl_FixedBits.mono _ _ _)
   | (with_reducible exact impl_FixedValues.mono _ _ _)
   | (with_reducible exact impl_GreatestGap.mono _ _ _)
   | (with_reducible exact impl_StepBits.mono _ _ _)
   | (with_reducible exact impl_StepGaps.mono _ _ _)
   | (with_reducible exact impl_StepValues.mono _ _ _)
   | (with_reducible exact impl_StepsOfBits.mono _ _ _)
   | (with_reducible exact laws_uSame.mono _ _ _)
   | (with_reducible exact spec_DrawFixedValues.mono _ _)
   | (with_reducible exact spec_DrawStepBits.mono _ _)
   | (with_reducible exact spec_DrawStepsOfBits.mono _ _)
   | (with_reducible exact spec_FixedBits.mono _ _ _)
   | (with_reducible exact spec_FixedValues.mono _ _ _)
   | (with_reducible exact spec_GreatestGap.mono _ _ _)
   | (with_reducible exact spec_StepBits.mono _ _ _)
   | (with_reducible exact spec_StepGaps.mono _ _ _)
   | (with_reducible exact spec_StepValues.mono _ _ _)
   | (with_reducible exact spec_StepsOfBits.mono _ _ _)
   | (with_reducible exact LeO.refl _)
   | (with_reducible exact LeO.none _)
   | (with_reducible refine LeO.ite ?_ ?_)
   | (with_reducible refine LeO.bind ?_ (fun _ => ?_))
   | exact ih0 _ _ _ _ _ _ _ _ _ _
   | exact ih1 _
   | exact ih2 _ _ _ _ _ _ _
   | exact ih3 _ _ _ _ _
   | exact ih4 _ _ _ _
   | exact ih5 _ _ _ _ _ _
   | exact ih6 _ _ _ _ _ _ _ _ _
   | exact ih7 _ _ _ _ _ _ _ _ _ _ _ _
   | exact ih8 _ _ _ _
   | exact ih9 _ _ _ _ _ _ _ _
   | exact ih10 _ _ _ _ _ _ _ _ _ _ _ _ _
   | exact impl_FixedBits.mono _ _ _
   | exact impl_FixedValues.mono _ _ _
   | exact impl_GreatestGap.mono _ _ _
   | exact impl_StepBits.mono _ _ _
   | exact impl_StepGaps.mono _ _ _
   | exact impl_StepValues.mono _ _ _
   | exact impl_StepsOfBits.mono _ _ _
   | exact laws_uSame.mono _ _ _
   | exact spec_DrawFixedValues.mono _ _
   | exact spec_DrawStepBits.mono _ _
   | exact spec_DrawStepsOfBits.mono _ _
   | exact spec_FixedBits.mono _ _ _
   | exact spec_FixedValues.mono _ _ _
   | exact spec_GreatestGap.mono _ _ _
   | exact spec_StepBits.mono _ _ _
   | exact spec_StepGaps.mono _ _ _
   | exact spec_StepValues.mono _ _ _
   | exact spec_StepsOfBits.mono _ _ _
   | exact LeO.none _
   | refine LeO.ite ?_ ?_
   | refine LeO.bind ?_ (fun _ => ?_)
  ·intro y0 y1 y2 y3
   unfold laws_FnStepsAdapt.j9
   repeat' first
   | (with_reducible exact ih0 _ _ _ _ _ _ _ _ _ _)
   | (with_reducible exact ih1 _)
   | (with_reducible exact ih2 _ _ _ _ _ _ _)
   | (with_reducible exact ih3 _ _ _ _ _)
   | (with_reducible exact ih4 _ _ _ _)
   | (with_reducible exact ih5 _ _ _ _ _ _)
   | (with_reducible exact ih6 _ _ _ _ _ _ _ _ _)
   | (with_reducible exact ih7 _ _ _ _ _ _ _ _ _ _ _ _)
   | (with_reducible exact ih8 _ _ _ _)
   | (with_reducible exact ih9 _ _ _ _ _ _ _ _)
   | (with_reducible exact ih10 _ _ _ _ _ _ _ _ _ _ _ _ _)
   | (with_reducible exact impl_FixedBits.mono _ _ _)
   | (with_reducible exact impl_FixedValues.mono _ _ _)
   | (with_reducible exact impl_GreatestGap.mono _ _ _)
   | (with_reducible exact impl_StepBits.mono _ _ _)
   | (with_reducible exact impl_StepGaps.mono _ _ _)
   | (with_reducible exact impl_StepValues.mono _ _ _)
   | (with_reducible exact impl_StepsOfBits.mono _ _ _)
   | (with_reducible exact laws_uSame.mono _ _ _)
   | (with_reducible exact spec_DrawFixedValues.mono _ _)
   | (with_reducible exact spec_DrawStepBits.mono _ _)
   | (with_reducible exact spec_DrawStepsOfBits.mono _ _)
   | (with_reducible exact spec_FixedBits.mono _ _ _)
   | (with_reducible exact spec_FixedValues.mono _ _ _)
   | (with_reducible exact spec_GreatestGap.mono _ _ _)
   | (with_reducible exact spec_StepBits.mono _ _ _)
   | (with_reducible exact spec_StepGaps.mono _ _ _)
   | (with_reducible exact spec_StepValues.mono _ _ _)
   | (with_reducible exact spec_StepsOfBits.mono _ _ _)
   | (with_reducible exact LeO.refl _)
   | (with_reducible exact LeO.none _)
   | (with_reducible refine LeO.ite ?_ ?_)
   | (with_reducible refine LeO.bind ?_ (fun _ => ?_))
   | exact ih0 _ _ _ _ _ _ _ _ _ _
   | exact ih1 _
   | exact ih2 _ _ _ _ _ _ _
   | exact ih3 _ _ _ _ _
   | exact ih4 _ _ _ _
   | exact ih5 _ _ _ _ _ _
   | exact ih6 _ _ _ _ _ _ _ _ _
   | exact ih7 _ _ _ _ _ _ _ _ _ _ _ _
   | exact ih8 _ _ _ _
   | exact ih9 _ _ _ _ _ _ _ _
   | exact ih10 _ _ _ _ _ _ _ _ _ _ _ _ _
   | exact impl_FixedBits.mono _ _ _
   | exact impl_FixedValues.mono _ _ _
   | exact impl_GreatestGap.mono _ _ _
   | exact impl_StepBits.mono _ _ _
   | exact impl_StepGaps.mono _ _ _
   | exact impl_StepValues.mono _ _ _
   | exact impl_StepsOfBits.mono _ _ _
   | exact laws_uSame.mono _ _ _
   | exact spec_DrawFixedValues.mono _ _
   | exact spec_DrawStepBits.mono _ _
   | exact spec_DrawStepsOfBits.mono _ _
   | exact spec_FixedBits.mono _ _ _
   | exact spec_FixedValues.mono _ _ _
   | exact spec_GreatestGap.mono _ _ _
   | exact spec_StepBits.mono _ _ _
   | exact spec_StepGaps.mono _ _ _
   | exact spec_StepValues.mono _ _ _
   | exact spec_StepsOfBits.mono _ _ _
   | exact LeO.none _
   | refine LeO.ite ?_ ?_
   | refine LeO.bind ?_ (fun _ => ?_)
  ·intro y0 y1 y2 y3 y4 y5
   unfold laws_FnStepsAdapt.l3
   repeat' first
   | (with_reducible exact ih0 _ _ _ _ _ _ _ _ _ _)
   | (with_reducible exact ih1 _)
   | (with_reducible exact ih2 _ _ _ _ _ _ _)
   | (with_reducible exact ih3 _ _ _ _ _)
   | (with_reducible exact ih4 _ _ _ _)
   | (with_reducible exact ih5 _ _ _ _ _ _)
   | (with_reducible exact ih6 _ _ _ _ _ _ _ _ _)
   | (with_reducible exact ih7 _ _ _ _ _ _ _ _ _ _ _ _)
   | (with_reducible exact ih8 _ _ _ _)
   | (with_reducible exact ih9 _ _ _ _ _ _ _ _)
   | (with_reducible exact ih10 _ _ _ _ _ _ _ _ _ _ _ _ _)
   | (with_reducible exact impl_FixedBits.mono _ _ _)
   | (with_reducible exact impl_FixedValues.mono _ _ _)
   | (with_reducible exact impl_GreatestGap.mono _ _ _)
   | (with_reducible exact impl_StepBits.mono _ _ _)
   | (with_reducible exact impl_StepGaps.mono _ _ _)
   | (with_reducible exact impl_StepValues.mono _ _ _)
   | (with_reducible exact impl_StepsOfBits.mono _ _ _)
   | (with_reducible exact laws_uSame.mono _ _ _)
   | (with_reducible exact spec_DrawFixedValues.mono _ _)
   | (with_reducible exact spec_DrawStepBits.mono _ _)
   | (with_reducible exact spec_DrawStepsOfBits.mono _ _)
   | (with_reducible exact spec_FixedBits.mono _ _ _)
   | (with_reducible exact spec_FixedValues.mono _ _ _)
   | (with_reducible exact spec_GreatestGap.mono _ _ _)
   | (with_reducible exact spec_StepBits.mono _ _ _)
   | (with_reducible exact spec_StepGaps.mono _ _ _)
   | (with_reducible exact spec_StepValues.mono _ _ _)
   | (with_reducible exact spec_StepsOfBits.mono _ _ _)
   | (with_reducible exact LeO.refl _)
   | (with_reducible exact LeO.none _)
   | (with_reducible refine LeO.ite ?_ ?_)
   | (with_reducible refine LeO.bind ?_ (fun _ => ?_))
   | exact ih0 _ _ _ _ _ _ _ _ _ _
   | exact ih1 _
   | exact ih2 _ _ _ _ _ _ _
   | exact ih3 _ _ _ _ _
   | exact ih4 _ _ _ _
   | exact ih5 _ _ _ _ _ _
   | exact ih6 _ _ _ _ _ _ _ _ _
   | exact ih7 _ _ _ _ _ _ _ _ _ _ _ _
   | exact ih8 _ _ _ _
   | exact ih9 _ _ _ _ _ _ _ _
   | exact ih10 _ _ _ _ _ _ _ _ _ _ _ _ _
   | exact impl_FixedBits.mono _ _ _
   | exact impl_FixedValues.mono _ _ _
   | exact impl_GreatestGap.mono _ _ _
   | exact impl_StepBits.mono _ _ _
   | exact impl_StepGaps.mono _ _ _
   | exact impl_StepValues.mono _ _ _
   | exact impl_StepsOfBits.mono _ _ _
   | exact laws_uSame.mono _ _ _
   | exact spec_DrawFixedValues.mono _ _
   | exact spec_DrawStepBits.mono _ _
   | exact spec_DrawStepsOfBits.mono _ _
   | exact spec_FixedBits.mono _ _ _
   | exact spec_FixedValues.mono _ _ _
   | exact spec_GreatestGap.mono _ _ _
   | exact spec_StepBits.mono _ _ _
   | exact spec_StepGaps.mono _ _ _
   | exact spec_StepValues.mono _ _ _
   | exact spec_StepsOfBits.mono _ _ _
   | exact LeO.none _
   | refine LeO.ite ?_ ?_
   | refine LeO.bind ?_ (fun _ => ?_)
  ·intro y0 y1 y2 y3 y4 y5 y6 y7 y8
   unfold laws_FnStepsAdapt.l2
   repeat' first
   | (with_reducible exact ih0 _ _ _ _ _ _ _ _ _ _)
   | (with_reducible exact ih1 _)
   | (with_reducible exact ih2 _ _ _ _ _ _ _)
   | (with_reducible exact ih3 _ _ _ _ _)
   | (with_reducible exact ih4 _ _ _ _)
   | (with_reducible exact ih5 _ _ _ _ _ _)
   | (with_reducible exact ih6 _ _ _ _ _ _ _ _ _)
   | (with_reducible exact ih7 _ _ _ _ _ _ _ _ _ _ _ _)
   | (with_reducible exact ih8 _ _ _ _)
   | (with_reducible exact ih9 _ _ _ _ _ _ _ _)
   | (with_reducible exact ih10 _ _ _ _ _ _ _ _ _ _ _ _ _)
   | (with_reducible exact impl_FixedBits.mono _ _ _)
   | (with_reducible exact impl_FixedValues.mono _ _ _)
   | (with_reducible exact impl_GreatestGap.mono _ _ _)
   | (with_reducible exact impl_StepBits.mono _ _ _)
   | (with_reducible exact impl_StepGaps.mono _ _ _)
   | (with_reducible exact impl_StepValues.mono _ _ _)
   | (with_reducible exact impl_StepsOfBits.mono _ _ _)
   | (with_reducible exact laws_uSame.mono _ _ _)
   | (with_reducible exact spec_DrawFixedValues.mono _ _)
   | (with_reducible exact spec_DrawStepBits.mono _ _)
   | (with_reducible exact spec_DrawStepsOfBits.mono _ _)
   | (with_reducible exact spec_FixedBits.mono _ _ _)
   | (with_reducible exact spec_FixedValues.mono _ _ _)
   | (with_reducible exact spec_GreatestGap.mono _ _ _)
   | (with_reducible exact spec_StepBits.mono _ _ _)
   | (with_reducible exact spec_StepGaps.mono _ _ _)
   | (with_reducible exact spec_StepValues.mono _ _ _)
   | (with_reducible exact spec_StepsOfBits.mono _ _ _)
   | (with_reducible exact LeO.refl _)
   | (with_reducible exact LeO.none _)
   | (with_reducible refine LeO.ite ?_ ?_)
   | (with_reducible refine LeO.bind ?_ (fun _ => ?_))
   | exact ih0 _ _ _ _ _ _ _ _ _ _
   | exact ih1 _
   | exact ih2 _ _ _ _ _ _ _
   | exact ih3 _ _ _ _ _
   | exact ih4 _ _ _ _
   | exact ih5 _ _ _ _ _ _
   | exact ih6 _ _ _ _ _ _ _ _ _
   | exact ih7 _ _ _ _ _ _ _ _ _ _ _ _
   | exact ih8 _ _ _ _
   | exact ih9 _ _ _ _ _ _ _ _
   | exact ih10 _ _ _ _ _ _ _ _ _ _ _ _ _
   | exact impl_FixedBits.mono _ _ _
   | exact impl_FixedValues.mono _ _ _
   | exact impl_GreatestGap.mono _ _ _
   | exact impl_StepBits.mono _ _ _
   | exact impl_StepGaps.mono _ _ _
   | exact impl_StepValues.mono _ _ _
   | exact impl_StepsOfBits.mono _ _ _
   | exact laws_uSame.mono _ _ _
   | exact spec_DrawFixedValues.mono _ _
   | exact spec_DrawStepBits.mono _ _
   | exact spec_DrawStepsOfBits.mono _ _
   | exact spec_FixedBits.mono _ _ _
   | exact spec_FixedValues.mono _ _ _
   | exact spec_GreatestGap.mono _ _ _
   | exact spec_StepBits.mono _ _ _
   | exact spec_StepGaps.mono _ _ _
   | exact spec_StepValues.mono _ _ _
   | exact spec_StepsOfBits.mono _ _ _
   | exact LeO.none _
   | refine LeO.ite ?_ ?_
   | refine LeO.bind ?_ (fun _ => ?_)
  ·intro y0 y1 y2 y3 y4 y5 y6 y7 y8 y9 y10 y11
   unfold laws_FnStepsAdapt.j7
   repeat' first
   | (with_reducible exact ih0 _ _ _ _ _ _ _ _ _ _)
   | (with_reducible exact ih1 _)
   | (with_reducible exact ih2 _ _ _ _ _ _ _)
   | (with_reducible exact ih3 _ _ _ _ _)
   | (with_reducible exact ih4 _ _ _ _)
   | (with_reducible exact ih5 _ _ _ _ _ _)
   | (with_reducible exact ih6 _ _ _ _ _ _ _ _ _)
   | (with_reducible exact ih7 _ _ _ _ _ _ _ _ _ _ _ _)
   | (with_reducible exact ih8 _ _ _ _)
   | (with_reducible exact ih9 _ _ _ _ _ _ _ _)
   | (with_reducible exact ih10 _ _ _ _ _ _ _ _ _ _ _ _ _)
   | (with_reducible exact impl_FixedBits.mono _ _ _)
   | (with_reducible exact impl_FixedValues.mono _ _ _)
   | (with_reducible exact impl_GreatestGap.mono _ _ _)
   | (with_reducible exact impl_StepBits.mono _ _ _)
   | (with_reducible exact impl_StepGaps.mono _ _ _)
   | (with_reducible exact impl_StepValues.mono _ _ _)
   | (with_reducible exact impl_StepsOfBits.mono _ _ _)
   | (with_reducible exact laws_uSame.mono _ _ _)
   | (with_reducible exact spec_DrawFixedValues.mono _ _)
   | (with_reducible exact spec_DrawStepBits.mono _ _)
   | (with_reducible exact spec_DrawStepsOfBits.mono _ _)
   | (with_reducible exact spec_FixedBits.mono _ _ _)
   | (with_reducible exact spec_FixedValues.mono _ _ _)
   | (with_reducible exact spec_GreatestGap.mono _ _ _)
   | (with_reducible exact spec_StepBits.mono _ _ _)
   | (with_reducible exact spec_StepGaps.mono _ _ _)
   | (with_reducible exact spec_StepValues.mono _ _ _)
   | (with_reducible exact spec_StepsOfBits.mono _ _ _)
   | (with_reducible exact LeO.refl _)
   | (with_reducible exact LeO.none _)
   | (with_reducible refine LeO.ite ?_ ?_)
   | (with_reducible refine LeO.bind ?_ (fun _ => ?_))
   | exact ih0 _ _ _ _ _ _ _ _ _ _
   | exact ih1 _
   | exact ih2 _ _ _ _ _ _ _
   | exact ih3 _ _ _ _ _
   | exact ih4 _ _ _ _
   | exact ih5 _ _ _ _ _ _
   | exact ih6 _ _ _ _ _ _ _ _ _
   | exact ih7 _ _ _ _ _ _ _ _ _ _ _ _
   | exact ih8 _ _ _ _
   | exact ih9 _ _ _ _ _ _ _ _
   | exact ih10 _ _ _ _ _ _ _ _ _ _ _ _ _
   | exact impl_FixedBits.mono _ _ _
   | exact impl_FixedValues.mono _ _ _
   | exact impl_GreatestGap.mono _ _ _
   | exact impl_StepBits.mono _ _ _
   | exact impl_StepGaps.mono _ _ _
   | exact impl_StepValues.mono _ _ _
   | exact impl_StepsOfBits.mono _ _ _
   | exact laws_uSame.mono _ _ _
   | exact spec_DrawFixedValues.mono _ _
   | exact spec_DrawStepBits.mono _ _
   | exact spec_DrawStepsOfBits.mono _ _
   | exact spec_FixedBits.mono _ _ _
   | exact spec_FixedValues.mono _ _ _
   | exact spec_GreatestGap.mono _ _ _
   | exact spec_StepBits.mono _ _ _
   | exact spec_StepGaps.mono _ _ _
   | exact spec_StepValues.mono _ _ _
   | exact spec_StepsOfBits.mono _ _ _
   | exact LeO.none _
   | refine LeO.ite ?_ ?_
   | refine LeO.bind ?_ (fun _ => ?_)
  ·intro y0 y1 y2 y3
   unfold laws_FnStepsAdapt.j2
   repeat' first
   | (with_reducible exact ih0 _ _ _ _ _ _ _ _ _ _)
   | (with_reducible exact ih1 _)
   | (with_reducible exact ih2 _ _ _ _ _ _ _)
   | (with_reducible exact ih3 _ _ _ _ _)
   | (with_reducible exact ih4 _ _ _ _)
   | (with_reducible exact ih5 _ _ _ _ _ _)
   | (with_reducible exact ih6 _ _ _ _ _ _ _ _ _)
   | (with_reducible exact ih7 _ _ _ _ _ _ _ _ _ _ _ _)
   | (with_reducible exact ih8 _ _ _ _)
   | (with_reducible exact ih9 _ _ _ _ _ _ _ _)
   | (with_reducible exact ih10 _ _ _ _ _ _ _ _ _ _ _ _ _)
   | (with_reducible exact impl_FixedBits.mono _ _ _)
   | (with_reducible exact impl_FixedValues.mono _ _ _)
   | (with_reducible exact impl_GreatestGap.mono _ _ _)
   | (with_reducible exact impl_StepBits.mono _ _ _)
   | (with_reducible exact impl_StepGaps.mono _ _ _)
   | (with_reducible exact impl_StepValues.mono _ _ _)
   | (with_reducible exact impl_StepsOfBits.mono _ _ _)
   | (with_reducible exact laws_uSame.mono _ _ _)
   | (with_reducible exact spec_DrawFixedValues.mono _ _)
   | (with_reducible exact spec_DrawStepBits.mono _ _)
   | (with_reducible exact spec_DrawStepsOfBits.mono _ _)
   | (with_reducible exact spec_FixedBits.mono _ _ _)
   | (with_reducible exact spec_FixedValues.mono _ _ _)
   | (with_reducible exact spec_GreatestGap.mono _ _ _)
   | (with_reducible exact spec_StepBits.mono _ _ _)
   | (with_reducible exact spec_StepGaps.mono _ _ _)
   | (with_reducible exact spec_StepValues.mono _ _ _)
   | (with_reducible exact spec_StepsOfBits.mono _ _ _)
   | (with_reducible exact LeO.refl _)
   | (with_reducible exact LeO.none _)
   | (with_reducible refine LeO.ite ?_ ?_)
   | (with_reducible refine LeO.bind ?_ (fun _ => ?_))
   | exact ih0 _ _ _ _ _ _ _ _ _ _
   | exact ih1 _
   | exact ih2 _ _ _ _ _ _ _
   | exact ih3 _ _ _ _ _
   | exact ih4 _ _ _ _
   | exact ih5 _ _ _ _ _ _
   | exact ih6 _ _ _ _ _ _ _ _ _
   | exact ih7 _ _ _ _ _ _ _ _ _ _ _ _
   | exact ih8 _ _ _ _
   | exact ih9 _ _ _ _ _ _ _ _
   | exact ih10 _ _ _ _ _ _ _ _ _ _ _ _ _
   | exact impl_FixedBits.mono _ _ _
   | exact impl_FixedValues.mono _ _ _
   | exact impl_GreatestGap.mono _ _ _
   | exact impl_StepBits.mono _ _ _
   | exact impl_StepGaps.mono _ _ _
   | exact impl_StepValues.mono _ _ _
   | exact impl_StepsOfBits.mono _ _ _
   | exact laws_uSame.mono _ _ _
   | exact spec_DrawFixedValues.mono _ _
   | exact spec_DrawStepBits.mono _ _
   | exact spec_DrawStepsOfBits.mono _ _
   | exact spec_FixedBits.mono _ _ _
   | exact spec_FixedValues.mono _ _ _
   | exact spec_GreatestGap.mono _ _ _
   | exact spec_StepBits.mono _ _ _
   | exact spec_StepGaps.mono _ _ _
   | exact spec_StepValues.mono _ _ _
   | exact spec_StepsOfBits.mono _ _ _
   | exact LeO.none _
   | refine LeO.ite ?_ ?_
   | refine LeO.bind ?_ (fun _ => ?_)
  ·intro y0 y1 y2 y3 y4 y5 y6 y7
   unfold laws_FnStepsAdapt.l1
   repeat' first
   | (with_reducible exact ih0 _ _ _ _ _ _ _ _ _ _)
   | (with_reducible exact ih1 _)
   | (with_reducible exact ih2 _ _ _ _ _ _ _)
   | (with_reducible exact ih3 _ _ _ _ _)
   | (with_reducible exact ih4 _ _ _ _)
   | (with_reducible exact ih5 _ _ _ _ _ _)
   | (with_reducible exact ih6 _ _ _ _ _ _ _ _ _)
   | (with_reducible exact ih7 _ _ _ _ _ _ _ _ _ _ _ _)
   | (with_reducible exact ih8 _ _ _ _)
   | (with_reducible exact ih9 _ _ _ _ _ _ _ _)
   | (with_reducible exact ih10 _ _ _ _ _ _ _ _ _ _ _ _ _)
   | (with_reducible exact impl_FixedBits.mono _ _ _)
   | (with_reducible exact impl_FixedValues.mono _ _ _)
   | (with_reducible exact impl_GreatestGap.mono _ _ _)
   | (with_reducible exact impl_StepBits.mono _ _ _)
   | (with_reducible exact impl_StepGaps.mono _ _ _)
   | (with_reducible exact impl_StepValues.mono _ _ _)
   | (with_reducible exact impl_StepsOfBits.mono _ _ _)
   | (with_reducible exact laws_uSame.mono _ _ _)
   | (with_reducible exact spec_DrawFixedValues.mono _ _)
   | (with_reducible exact spec_DrawStepBits.mono _ _)
   | (with_reducible exact spec_DrawStepsOfBits.mono _ _)
   | (with_reducible exact spec_FixedBits.mono _ _ _)
   | (with_reducible exact spec_FixedValues.mono _ _ _)
   | (with_reducible exact spec_GreatestGap.mono _ _ _)
   | (with_reducible exact spec_StepBits.mono _ _ _)
   | (with_reducible exact spec_StepGaps.mono _ _ _)
   | (with_reducible exact spec_StepValues.mono _ _ _)
   | (with_reducible exact spec_StepsOfBits.mono _ _ _)
   | (with_reducible exact LeO.refl _)
   | (with_reducible exact LeO.none _)
   | (with_reducible refine LeO.ite ?_ ?_)
   | (with_reducible refine LeO.bind ?_ (fun _ => ?_))
   | exact ih0 _ _ _ _ _ _ _ _ _ _
   | exact ih1 _
   | exact ih2 _ _ _ _ _ _ _
   | exact ih3 _ _ _ _ _
   | exact ih4 _ _ _ _
   | exact ih5 _ _ _ _ _ _
   | exact ih6 _ _ _ _ _ _ _ _ _
   | exact ih7 _ _ _ _ _ _ _ _ _ _ _ _
   | exact ih8 _ _ _ _
   | exact ih9 _ _ _ _ _ _ _ _
   | exact ih10 _ _ _ _ _ _ _ _ _ _ _ _ _
   | exact impl_FixedBits.mono _ _ _
   | exact impl_FixedValues.mono _ _ _
   | exact impl_GreatestGap.mono _ _ _
   | exact impl_StepBits.mono _ _ _
   | exact impl_StepGaps.mono _ _ _
   | exact impl_StepValues.mono _ _ _
   | exact impl_StepsOfBits.mono _ _ _
   | exact laws_uSame.mono _ _ _
   | exact spec_DrawFixedValues.mono _ _
   | exact spec_DrawStepBits.mono _ _
   | exact spec_DrawStepsOfBits.mono _ _
   | exact spec_FixedBits.mono _ _ _
   | exact spec_FixedValues.mono _ _ _
   | exact spec_GreatestGap.mono _ _ _
   | exact spec_StepBits.mono _ _ _
   | exact spec_StepGaps.mono _ _ _
   | exact spec_StepValues.mono _ _ _
   | exact spec_StepsOfBits.mono _ _ _
   | exact LeO.none _
   | refine LeO.ite ?_ ?_
   | refine LeO.bind ?_ (fun _ => ?_)
  ·intro y0 y1 y2 y3 y4 y5 y6 y7 y8 y9 y10 y11 y12
   unfold laws_FnStepsAdapt.l0
   repeat' first
   | (with_reducible exact ih0 _ _ _ _ _ _ _ _ _ _)
   | (with_reducible exact ih1 _)
   | (with_reducible exact ih2 _ _ _ _ _ _ _)
   | (with_reducible exact ih3 _ _ _ _ _)
   | (with_reducible exact ih4 _ _ _ _)
   | (with_reducible exact ih5 _ _ _ _ _ _)
   | (with_reducible exact ih6 _ _ _ _ _ _ _ _ _)
   | (with_reducible exact ih7 _ _ _ _ _ _ _ _ _ _ _ _)
   | (with_reducible exact ih8 _ _ _ _)
   | (with_reducible exact ih9 _ _ _ _ _ _ _ _)
   | (with_reducible exact ih10 _ _ _ _ _ _ _ _ _ _ _ _ _)
   | (with_reducible exact impl_FixedBits.mono _ _ _)
   | (with_reducible exact impl_FixedValues.mono _ _ _)
   | (with_reducible exact impl_GreatestGap.mono _ _ _)
   | (with_reducible exact impl_StepBits.mono _ _ _)
   | (with_reducible exact impl_StepGaps.mono _ _ _)
   | (with_reducible exact impl_StepValues.mono _ _ _)
   | (with_reducible exact impl_StepsOfBits.mono _ _ _)
   | (with_reducible exact laws_uSame.mono _ _ _)
   | (with_reducible exact spec_DrawFixedValues.mono _ _)
   | (with_reducible exact spec_DrawStepBits.mono _ _)
   | (with_reducible exact spec_DrawStepsOfBits.mono _ _)
   | (with_reducible exact spec_FixedBits.mono _ _ _)
   | (with_reducible exact spec_FixedValues.mono _ _ _)
   | (with_reducible exact spec_GreatestGap.mono _ _ _)
   | (with_reducible exact spec_StepBits.mono _ _ _)
   | (with_reducible exact spec_StepGaps.mono _ _ _)
   | (with_reducible exact spec_StepValues.mono _ _ _)
   | (with_reducible exact spec_StepsOfBits.mono _ _ _)
   | (with_reducible exact LeO.refl _)
   | (with_reducible exact LeO.none _)
   | (with_reducible refine LeO.ite ?_ ?_)
   | (with_reducible refine LeO.bind ?_ (fun _ => ?_))
   | exact ih0 _ _ _ _ _ _ _ _ _ _
   | exact ih1 _
   | exact ih2 _ _ _ _ _ _ _
   | exact ih3 _ _ _ _ _
   | exact ih4 _ _ _ _
   | exact ih5 _ _ _ _ _ _
   | exact ih6 _ _ _ _ _ _ _ _ _
   | exact ih7 _ _ _ _ _ _ _ _ _ _ _ _
   | exact ih8 _ _ _ _
   | exact ih9 _ _ _ _ _ _ _ _
   | exact ih10 _ _ _ _ _ _ _ _ _ _ _ _ _
   | exact impl_FixedBits.mono _ _ _
   | exact impl_FixedValues.mono _ _ _
   | exact impl_GreatestGap.mono _ _ _
   | exact impl_StepBits.mono _ _ _
   | exact impl_StepGaps.mono _ _ _
   | exact impl_StepValues.mono _ _ _
   | exact impl_StepsOfBits.mono _ _ _
   | exact laws_uSame.mono _ _ _
   | exact spec_DrawFixedValues.mono _ _
   | exact spec_DrawStepBits.mono _ _
   | exact spec_DrawStepsOfBits.mono _ _
   | exact spec_FixedBits.mono _ _ _
   | exact spec_FixedValues.mono _ _ _
   | exact spec_GreatestGap.mono _ _ _
   | exact spec_StepBits.mono _ _ _
   | exact spec_StepGaps.mono _ _ _
   | exact spec_StepValues.mono _ _ _
   | exact spec_StepsOfBits.mono _ _ _
   | exact LeO.none _
   | refine LeO.ite ?_ ?_
   | refine LeO.bind ?_ (fun _ => ?_)
theorem laws_FnStepsAdapt.mono : ∀ a0 a1 k, LeO (laws_FnStepsAdapt.f k a0 a1) (laws_FnStepsAdapt.f (k + 1) a0 a1) := by
 intro a0 a1 k
 obtain ⟨ih0, ih1, ih2, ih3, ih4, ih5, ih6, ih7, ih8, ih9, ih10⟩ := laws_FnStepsAdapt.mono_l k
 unfold laws_FnStepsAdapt.f
 repeat' first
   | (with_reducible exact ih0 _ _ _ _ _ _ _ _ _ _)
   | (with_reducible exact ih1 _)
   | (with_reducible exact ih2 _ _ _ _ _ _ _)
   | (with_reducible exact ih3 _ _ _ _ _)
   | (with_reducible exact ih4 _ _ _ _)
   | (with_reducible exact ih5 _ _ _ _ _ _)
   | (with_reducible exact ih6 _ _ _ _ _ _ _ _ _)
   | (with_reducible exact ih7 _ _ _ _ _ _ _ _ _ _ _ _)
   | (with_reducible exact ih8 _ _ _ _)
   | (with_reducible exact ih9 _ _ _ _ _ _ _ _)
   | (with_reducible exact ih10 _ _ _ _ _ _ _ _ _ _ _ _ _)
   | (with_reducible exact impl_FixedBits.mono _ _ _)
   | (with_reducible exact impl_FixedValues.mono _ _ _)
   | (with_reducible exact impl_GreatestGap.mono _ _ _)
   | (with_reducible exact impl_StepBits.mono _ _ _)
   | (with_reducible exact impl_StepGaps.mono _ _ _)
   | (with_reducible exact impl_StepValues.mono _ _ _)
   | (with_reducible exact impl_StepsOfBits.mono _ _ _)
   | (with_reducible exact laws_uSame.mono _ _ _)
   | (with_reducible exact spec_DrawFixedValues.mono _ _)
   | (with_reducible exact spec_DrawStepBits.mono _ _)
   | (with_reducible exact spec_DrawStepsOfBits.mono _ _)
   | (with_reducible exact spec_FixedBits.mono _ _ _)
   | (with_reducible exact spec_FixedValues.mono _ _ _)
   | (with_reducible exact spec_GreatestGap.mono _ _ _)
   | (with_reducible exact spec_StepBits.mono _ _ _)
   | (with_reducible exact spec_StepGaps.mono _ _ _)
   | (with_reducible exact spec_StepValues.mono _ _ _)
   | (with_reducible exact spec_StepsOfBits.mono _ _ _)
   | (with_reducible exact LeO.refl _)
   | (with_reducible exact LeO.none _)
   | (with_reducible refine LeO.ite ?_ ?_)
   | (with_reducible refine LeO.bind ?_ (fun _ => ?_))
   | exact ih0 _ _ _ _ _ _ _ _ _ _
   | exact ih1 _
   | exact ih2 _ _ _ _ _ _ _
   | exact ih3 _ _ _ _ _
   | exact ih4 _ _ _ _
   | exact ih5 _ _ _ _ _ _
   | exact ih6 _ _ _ _ _ _ _ _ _
   | exact ih7 _ _ _ _ _ _ _ _ _ _ _ _
   | exact ih8 _ _ _ _
   | exact ih9 _ _ _ _ _ _ _ _
   | exact ih10 _ _ _ _ _ _ _ _ _ _ _ _ _
   | exact impl_FixedBits.mono _ _ _
   | exact impl_FixedValues.mono _ _ _
   | exact impl_GreatestGap.mono _ _ _
   | exact impl_StepBits.mono _ _ _
   | exact impl_StepGaps.mono _ _ _
   | exact impl_StepValues.mono _ _ _
   | exact impl_StepsOfBits.mono _ _ _
   | exact laws_uSame.mono _ _ _
   | exact spec_DrawFixedValues.mono _ _
   | exact spec_DrawStepBits.mono _ _
   | exact spec_DrawStepsOfBits.mono _ _
   | exact spec_FixedBits.mono _ _ _
   | exact spec_FixedValues.mono _ _ _
   | exact spec_GreatestGap.mono _ _ _
   | exact spec_StepBits.mono _ _ _
   | exact spec_StepGaps.mono _ _ _
   | exact spec_StepValues.mono _ _ _
   | exact spec_StepsOfBits.mono _ _ _
   | exact LeO.none _
   | refine LeO.ite ?_ ?_
   | refine LeO.bind ?_ (fun _ => ?_)
def laws_FnStepsAdapt.T23 : Bool × List (List Nat × List Nat) := (true, [([], []), ([], []), ([0, 1], [0, 1]), ([2], [2]), ([3], [3]), ([], []), ([], []), ([5, 6], [5, 6]), ([4, 7], [4, 7]), ([8], [8]), ([9], [9]), ([10, 9, 9], [9, 10]), ([11], [11]), ([11], [11]), ([12, 13, 11], [11, 12, 13]), ([14, 11], [11, 14]), ([11], [11]), ([11], [11]), ([11], [11]), ([17, 18, 11], [11, 17, 18]), ([19, 11], [11, 19]), ([16, 20, 11], [11, 16, 20]), ([15, 21, 11], [11, 15, 21]), ([11, 22, 9], [9, 11, 22]), ([9, 23], [9, 23]), ([24, 11], [24]), ([25], [25]), ([26, 25, 25], [25, 26]), ([27], [27]), ([27], [27]), ([28, 29, 27], [27, 28, 29]), ([30, 27], [27, 30]), ([31, 27, 27], [27, 31]), ([27], [27]), ([32, 33, 27], [27, 32, 33]), ([27, 34, 25], [25, 27, 34]), ([25, 35], [25, 35])])
def laws_FnStepsAdapt.B23 : List Nat := [0, 0, 3, 7, 15, 0, 0, 96, 255, 511, 1023, 2047, 4095, 4095, 16383, 32767, 4095, 4095, 4095, 397311, 921599, 2035711, 4194303, 8388607, 16777215, 33554431, 67108863, 134217727, 268435455, 268435455, 1073741823, 2147483647, 4294967295, 268435455, 17179869183, 34359738367, 68719476735]
theorem laws_FnStepsAdapt.tab23 : rtab .any (opsOf Try.f4 23) = laws_FnStepsAdapt.T23 := by kernel_rfl
theorem laws_FnStepsAdapt.bits23 : waitsOk laws_FnStepsAdapt.T23.2 laws_FnStepsAdapt.B23 = true := by kernel_rfl
def laws_FnStepsAdapt.T33 : Bool × List (List Nat × List Nat) := (true, [([], []), ([], []), ([0, 1], [0, 1]), ([2], [2]), ([3], [3]), ([], []), ([], []), ([5, 6], [5, 6]), ([4, 7], [4, 7]), ([8], [8]), ([9], [9]), ([9], [9]), ([10, 11, 9], [9, 10, 11]), ([12, 9], [9, 12]), ([9], [9]), ([13, 14, 9], [9, 13, 14]), ([9], [9]), ([9], [9]), ([16, 17, 9], [9, 16, 17]), ([18, 9], [9, 18]), ([9], [9]), ([19, 20, 9], [9, 19, 20]), ([15, 21, 9], [9, 15, 21]), ([9, 22], [9, 22])])
def laws_FnStepsAdapt.B33 : List Nat := [0, 0, 3, 7, 15, 0, 0, 96, 255, 511, 1023, 1023, 4095, 8191, 1023, 32767, 1023, 1023, 197631, 459775, 1023, 2032639, 4194303, 8388607]
theorem laws_FnStepsAdapt.tab33 : rtab .any (opsOf Try.f4 33) = laws_FnStepsAdapt.T33 := by kernel_rfl
theorem laws_FnStepsAdapt.bits33 : waitsOk laws_FnStepsAdapt.T33.2 laws_FnStepsAdapt.B33 = true := by kernel_rfl
def laws_FnStepsAdapt.T54 : Bool × List (List Nat × List Nat) := (true, [([], []), ([], []), ([0, 1], [0, 1]), ([2], [2]), ([], []), ([], []), ([5], [5]), ([4, 6], [4, 6]), ([7], [7]), ([3, 8], [3, 8]), ([9], [9]), ([10], [10]), ([10], [10]), ([10], [10]), ([13, 10], [10, 13]), ([12, 14, 10], [10, 12, 14]), ([15, 10], [10, 15]), ([16, 10], [10, 16]), ([11, 17, 10], [10, 11, 17]), ([10, 18], [10, 18]), ([19, 10], [19]), ([20], [20]), ([21, 20], [20, 21]), ([20, 22], [20, 22]), ([23, 20], [23]), ([24], [24]), ([24], [24]), ([25, 26, 24], [24, 25, 26]), ([27, 24], [24, 27]), ([24], [24]), ([24], [24]), ([30, 24], [24, 30]), ([29, 31, 24], [24, 29, 31]), ([32, 24], [24, 32]), ([28, 33, 24], [24, 28, 33]), ([34, 24, 24], [24, 34]), ([35], [35]), ([35], [35]), ([35], [35]), ([38, 35], [35, 38]), ([37, 39, 35], [35, 37, 39]), ([40, 35], [35, 40]), ([41, 35], [35, 41]), ([36, 42, 35], [35, 36, 42]), ([35, 43, 24], [24, 35, 43]), ([44, 35, 24], [24, 44]), ([45], [45]), ([46, 45], [45, 46]), ([45, 47, 24], [24, 45, 47]), ([24, 48], [24, 48])])
def laws_FnStepsAdapt.B54 : List Nat := [0, 0, 3, 7, 0, 0, 32, 112, 240, 511, 1023, 2047, 2047, 2047, 10239, 30719, 63487, 129023, 262143, 524287, 1048575, 2097151, 4194303, 8388607, 16777215, 33554431, 33554431, 134217727, 268435455, 33554431, 33554431, 1107296255, 3791650815, 8086618111, 17179869183, 34359738367, 68719476735, 68719476735, 68719476735, 343597383679, 1030792151039, 2130303778815, 4329327034367, 8796093022207, 17592186044415, 35184372088831, 70368744177663, 140737488355327, 281474976710655, 562949953421311]
theorem laws_FnStepsAdapt.tab54 : rtab .any (opsOf Try.f4 54) = laws_FnStepsAdapt.T54 := by kernel_rfl
theorem laws_FnStepsAdapt.bits54 : waitsOk laws_FnStepsAdapt.T54.2 laws_FnStepsAdapt.B54 = true := by kernel_rfl

end Go.Proofs.Ytjplcongellcmaa.PFnStepsAdapt
