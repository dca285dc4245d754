/- What each Go function that the statement FnPairsRun reaches answers, proved call by call. No condition beyond those that the theorems print. (Written by wip/tools/xprint.py of this repo, over the kit's print.) -/
import Derived.Test.YtjplcongellcmaaPFnPairsRunx0
import Derived.Test.YtjplcongellcmaaPFnPairsRunx2
import Derived.Test.YtjplcongellcmaaPFnPairsRunx3
namespace Go.Proofs.Ytjplcongellcmaa.PFnPairsRun
open Go.RowKit Go.Proofs.YtjplcongellcmaaW.PrintWords Go.Proofs.YtjplcongellcmaaW.PrintLast Go.Proofs.YtjplcongellcmaaW.PrintMore
attribute [local go_sem] max2_int min2_int max_two min_two max_three min_three max_four min_four   -- for this text's walks alone
set_option linter.unusedVariables false
set_option linter.unusedSimpArgs false
def x4a0 : Array Bool := #[Zz,Zz,Zz,Zz,Zz,Zz,Zz,Zz,Zz,Zz,Zz,Zz,Zz,Zz,Zz,Zz,Zz,Zz,Zz,Zz,Zz,Zz,Zz,Zz,Zz,Zz,Zz,Zz,Zz,Zz,Zz,Zz]
def x4a1 : Array Bool := #[Yy,Zz,Zz,Zz,Zz,Zz,Zz,Zz,Zz,Zz,Zz,Zz,Zz,Zz,Zz,Zz,Zz,Zz,Zz,Zz,Zz,Zz,Zz,Zz,Zz,Zz,Zz,Zz,Zz,Zz,Zz,Zz]
def x4a2 : Array Bool := #[Yy,Yy,Zz,Zz,Zz,Zz,Zz,Zz,Zz,Zz,Zz,Zz,Zz,Zz,Zz,Zz,Zz,Zz,Zz,Zz,Zz,Zz,Zz,Zz,Zz,Zz,Zz,Zz,Zz,Zz,Zz,Zz]
def x4a3 : Array Bool := #[Yy,Yy,Yy,Zz,Zz,Zz,Zz,Zz,Zz,Zz,Zz,Zz,Zz,Zz,Zz,Zz,Zz,Zz,Zz,Zz,Zz,Zz,Zz,Zz,Zz,Zz,Zz,Zz,Zz,Zz,Zz,Zz]
def x4a4 : Array Bool := #[Yy,Yy,Yy,Yy,Zz,Zz,Zz,Zz,Zz,Zz,Zz,Zz,Zz,Zz,Zz,Zz,Zz,Zz,Zz,Zz,Zz,Zz,Zz,Zz,Zz,Zz,Zz,Zz,Zz,Zz,Zz,Zz]
def x4a5 : Array Bool := #[Yy,Yy,Yy,Yy,Zz,Yy,Zz,Zz,Zz,Zz,Zz,Zz,Zz,Zz,Zz,Zz,Zz,Zz,Zz,Zz,Zz,Zz,Zz,Zz,Zz,Zz,Zz,Zz,Zz,Zz,Zz,Zz]
def x4a6 : Array Bool := #[Yy,Yy,Yy,Yy,Zz,Yy,Yy,Zz,Zz,Zz,Zz,Zz,Zz,Zz,Zz,Zz,Zz,Zz,Zz,Zz,Zz,Zz,Zz,Zz,Zz,Zz,Zz,Zz,Zz,Zz,Zz,Zz]
def x4a7 : Array Bool := #[Yy,Yy,Yy,Yy,Zz,Yy,Yy,Zz,Zz,Yy,Zz,Zz,Zz,Zz,Zz,Zz,Zz,Zz,Zz,Zz,Zz,Zz,Zz,Zz,Zz,Zz,Zz,Zz,Zz,Zz,Zz,Zz]
def x4a8 : Array Bool := #[Yy,Yy,Yy,Yy,Zz,Yy,Yy,Zz,Zz,Yy,Yy,Zz,Zz,Zz,Zz,Zz,Zz,Zz,Zz,Zz,Zz,Zz,Zz,Zz,Zz,Zz,Zz,Zz,Zz,Zz,Zz,Zz]
def x4a9 : Array Bool := #[Yy,Yy,Yy,Yy,Zz,Yy,Yy,Zz,Zz,Yy,Yy,Yy,Zz,Zz,Zz,Zz,Zz,Zz,Zz,Zz,Zz,Zz,Zz,Zz,Zz,Zz,Zz,Zz,Zz,Zz,Zz,Zz]
def x4a10 : Array Bool := #[Yy,Yy,Yy,Yy,Zz,Yy,Yy,Zz,Zz,Yy,Yy,Yy,Yy,Zz,Zz,Zz,Zz,Zz,Zz,Zz,Zz,Zz,Zz,Zz,Zz,Zz,Zz,Zz,Zz,Zz,Zz,Zz]
def x4a11 : Array Bool := #[Yy,Yy,Yy,Yy,Zz,Yy,Yy,Zz,Zz,Yy,Yy,Yy,Yy,Zz,Yy,Zz,Zz,Zz,Zz,Zz,Zz,Zz,Zz,Zz,Zz,Zz,Zz,Zz,Zz,Zz,Zz,Zz]
def x4a12 : Array Bool := #[Yy,Yy,Yy,Yy,Zz,Yy,Yy,Zz,Zz,Yy,Yy,Yy,Yy,Zz,Yy,Yy,Zz,Zz,Zz,Zz,Zz,Zz,Zz,Zz,Zz,Zz,Zz,Zz,Zz,Zz,Zz,Zz]
def x4a13 : Array Bool := #[Yy,Yy,Yy,Yy,Zz,Yy,Yy,Zz,Zz,Yy,Yy,Yy,Yy,Zz,Yy,Yy,Zz,Zz,Yy,Zz,Zz,Zz,Zz,Zz,Zz,Zz,Zz,Zz,Zz,Zz,Zz,Zz]
def x4a14 : Array Bool := #[Yy,Yy,Yy,Yy,Zz,Yy,Yy,Zz,Zz,Yy,Yy,Yy,Yy,Zz,Yy,Yy,Zz,Zz,Yy,Yy,Zz,Zz,Zz,Zz,Zz,Zz,Zz,Zz,Zz,Zz,Zz,Zz]
def x4a15 : Array Bool := #[Yy,Yy,Yy,Yy,Zz,Yy,Yy,Zz,Zz,Yy,Yy,Yy,Yy,Zz,Yy,Yy,Zz,Zz,Yy,Yy,Zz,Yy,Zz,Zz,Zz,Zz,Zz,Zz,Zz,Zz,Zz,Zz]
def x4a16 : Array Bool := #[Yy,Yy,Yy,Yy,Zz,Yy,Yy,Zz,Zz,Yy,Yy,Yy,Yy,Zz,Yy,Yy,Zz,Zz,Yy,Yy,Zz,Yy,Yy,Zz,Zz,Zz,Zz,Zz,Zz,Zz,Zz,Zz]
def x4a17 : Array Bool := #[Yy,Yy,Yy,Yy,Zz,Yy,Yy,Zz,Zz,Yy,Yy,Yy,Yy,Zz,Yy,Yy,Zz,Zz,Yy,Yy,Zz,Yy,Yy,Yy,Zz,Zz,Zz,Zz,Zz,Zz,Zz,Zz]
def x4a18 : Array Bool := #[Yy,Yy,Yy,Yy,Zz,Yy,Yy,Zz,Zz,Yy,Yy,Yy,Yy,Zz,Yy,Yy,Zz,Zz,Yy,Yy,Zz,Yy,Yy,Yy,Zz,Zz,Yy,Zz,Zz,Zz,Zz,Zz]
def x4a19 : Array Bool := #[Yy,Yy,Yy,Yy,Yy,Yy,Yy,Yy,Yy,Yy,Yy,Yy,Yy,Yy,Yy,Yy,Yy,Yy,Yy,Yy,Yy,Yy,Yy,Yy,Yy,Yy,Yy,Yy,Yy,Yy,Yy,Zz]
def x4a20 : Array Bool := #[Yy,Yy,Yy,Yy,Yy,Yy,Yy,Yy,Yy,Yy,Yy,Yy,Yy,Yy,Yy,Yy,Yy,Yy,Yy,Yy,Yy,Yy,Yy,Yy,Yy,Yy,Yy,Yy,Yy,Yy,Zz,Zz]
def x4a21 : Array Bool := #[Yy,Yy,Yy,Yy,Yy,Yy,Yy,Yy,Yy,Yy,Yy,Yy,Yy,Yy,Yy,Yy,Yy,Yy,Yy,Yy,Yy,Yy,Yy,Yy,Yy,Yy,Yy,Zz,Zz,Zz,Yy,Zz]
def x4a22 : Array Bool := #[Yy,Yy,Yy,Yy,Yy,Yy,Yy,Yy,Yy,Yy,Yy,Yy,Yy,Yy,Yy,Yy,Yy,Yy,Yy,Yy,Yy,Yy,Yy,Yy,Yy,Yy,Yy,Zz,Zz,Zz,Zz,Zz]
def x4a23 : Array Bool := #[Yy,Yy,Yy,Yy,Yy,Yy,Yy,Yy,Yy,Yy,Yy,Yy,Yy,Yy,Yy,Yy,Yy,Yy,Yy,Yy,Yy,Yy,Yy,Yy,Zz,Zz,Yy,Zz,Zz,Zz,Yy,Zz]
def x4a24 : Array Bool := #[Yy,Yy,Yy,Yy,Yy,Yy,Yy,Yy,Yy,Yy,Yy,Yy,Yy,Yy,Yy,Yy,Yy,Yy,Yy,Yy,Yy,Yy,Yy,Yy,Zz,Zz,Yy,Zz,Zz,Zz,Zz,Zz]
def x4a25 : Array Bool := #[Yy,Yy,Yy,Yy,Yy,Yy,Yy,Yy,Yy,Yy,Yy,Yy,Yy,Yy,Yy,Yy,Yy,Yy,Yy,Yy,Zz,Yy,Yy,Yy,Zz,Zz,Yy,Zz,Zz,Zz,Yy,Zz]
def x4a26 : Array Bool := #[Yy,Yy,Yy,Yy,Yy,Yy,Yy,Yy,Yy,Yy,Yy,Yy,Yy,Yy,Yy,Yy,Yy,Yy,Yy,Yy,Zz,Yy,Yy,Yy,Zz,Zz,Yy,Zz,Zz,Zz,Zz,Zz]
def x4a27 : Array Bool := #[Yy,Yy,Yy,Yy,Yy,Yy,Yy,Yy,Yy,Yy,Yy,Yy,Yy,Zz,Yy,Yy,Zz,Zz,Yy,Yy,Zz,Yy,Yy,Yy,Zz,Zz,Yy,Zz,Zz,Zz,Yy,Zz]
def x4a28 : Array Bool := #[Yy,Yy,Yy,Yy,Yy,Yy,Yy,Yy,Yy,Yy,Yy,Yy,Yy,Zz,Yy,Yy,Zz,Zz,Yy,Yy,Zz,Yy,Yy,Yy,Zz,Zz,Yy,Zz,Zz,Zz,Zz,Zz]
def x4a29 : Array Bool := #[Yy,Yy,Yy,Yy,Zz,Yy,Yy,Zz,Zz,Yy,Yy,Yy,Yy,Zz,Yy,Yy,Zz,Zz,Yy,Yy,Zz,Yy,Yy,Yy,Zz,Zz,Yy,Zz,Zz,Zz,Yy,Zz]
def x4a30 : Array Bool := #[Yy,Yy,Yy,Yy,Yy,Yy,Yy,Zz,Zz,Yy,Yy,Yy,Yy,Zz,Yy,Yy,Zz,Zz,Yy,Yy,Zz,Yy,Yy,Yy,Zz,Zz,Yy,Zz,Zz,Zz,Zz,Zz]
def x4a31 : Array Bool := #[Yy,Yy,Yy,Yy,Yy,Yy,Yy,Yy,Zz,Yy,Yy,Yy,Yy,Zz,Yy,Yy,Zz,Zz,Yy,Yy,Zz,Yy,Yy,Yy,Zz,Zz,Yy,Zz,Zz,Zz,Zz,Zz]
def x4a32 : Array Bool := #[Yy,Yy,Yy,Yy,Yy,Yy,Yy,Zz,Zz,Yy,Yy,Yy,Yy,Zz,Yy,Yy,Zz,Zz,Yy,Yy,Zz,Yy,Yy,Yy,Zz,Zz,Yy,Zz,Zz,Zz,Yy,Zz]
def x4a33 : Array Bool := #[Yy,Yy,Yy,Yy,Yy,Yy,Yy,Yy,Zz,Yy,Yy,Yy,Yy,Zz,Yy,Yy,Zz,Zz,Yy,Yy,Zz,Yy,Yy,Yy,Zz,Zz,Yy,Zz,Zz,Zz,Yy,Zz]
def x4a34 : Array Bool := #[Yy,Yy,Yy,Yy,Yy,Yy,Yy,Yy,Yy,Yy,Yy,Yy,Yy,Yy,Yy,Yy,Zz,Zz,Yy,Yy,Zz,Yy,Yy,Yy,Zz,Zz,Yy,Zz,Zz,Zz,Zz,Zz]
def x4a35 : Array Bool := #[Yy,Yy,Yy,Yy,Yy,Yy,Yy,Yy,Yy,Yy,Yy,Yy,Yy,Yy,Yy,Yy,Yy,Zz,Yy,Yy,Zz,Yy,Yy,Yy,Zz,Zz,Yy,Zz,Zz,Zz,Zz,Zz]
def x4a36 : Array Bool := #[Yy,Yy,Yy,Yy,Yy,Yy,Yy,Yy,Yy,Yy,Yy,Yy,Yy,Yy,Yy,Yy,Zz,Zz,Yy,Yy,Zz,Yy,Yy,Yy,Zz,Zz,Yy,Zz,Zz,Zz,Yy,Zz]
def x4a37 : Array Bool := #[Yy,Yy,Yy,Yy,Yy,Yy,Yy,Yy,Yy,Yy,Yy,Yy,Yy,Yy,Yy,Yy,Yy,Zz,Yy,Yy,Zz,Yy,Yy,Yy,Zz,Zz,Yy,Zz,Zz,Zz,Yy,Zz]
def x4a38 : Array Bool := #[Yy,Yy,Yy,Yy,Yy,Yy,Yy,Yy,Yy,Yy,Yy,Yy,Yy,Yy,Yy,Yy,Yy,Yy,Yy,Yy,Yy,Yy,Yy,Yy,Yy,Zz,Yy,Zz,Zz,Zz,Zz,Zz]
def x4a39 : Array Bool := #[Yy,Yy,Yy,Yy,Yy,Yy,Yy,Yy,Yy,Yy,Yy,Yy,Yy,Yy,Yy,Yy,Yy,Yy,Yy,Yy,Yy,Yy,Yy,Yy,Yy,Zz,Yy,Zz,Zz,Zz,Yy,Zz]
def x4a40 : Array Bool := #[Yy,Yy,Yy,Yy,Yy,Yy,Yy,Yy,Yy,Yy,Yy,Yy,Yy,Yy,Yy,Yy,Yy,Yy,Yy,Yy,Yy,Yy,Yy,Yy,Yy,Yy,Yy,Yy,Zz,Zz,Zz,Zz]
def x4a41 : Array Bool := #[Yy,Yy,Yy,Yy,Yy,Yy,Yy,Yy,Yy,Yy,Yy,Yy,Yy,Yy,Yy,Yy,Yy,Yy,Yy,Yy,Yy,Yy,Yy,Yy,Yy,Yy,Yy,Yy,Yy,Zz,Zz,Zz]
def x4a42 : Array Bool := #[Yy,Yy,Yy,Yy,Yy,Yy,Yy,Yy,Yy,Yy,Yy,Yy,Yy,Yy,Yy,Yy,Yy,Yy,Yy,Yy,Yy,Yy,Yy,Yy,Yy,Yy,Yy,Yy,Zz,Zz,Yy,Zz]
def x4a43 : Array Bool := #[Yy,Yy,Yy,Yy,Yy,Yy,Yy,Yy,Yy,Yy,Yy,Yy,Yy,Yy,Yy,Yy,Yy,Yy,Yy,Yy,Yy,Yy,Yy,Yy,Yy,Yy,Yy,Yy,Yy,Zz,Yy,Zz]
def x4a44 : Array Bool := #[Yy,Yy,Yy,Yy,Yy,Yy,Yy,Yy,Yy,Yy,Yy,Yy,Yy,Yy,Yy,Yy,Yy,Yy,Yy,Yy,Yy,Yy,Yy,Yy,Yy,Yy,Yy,Yy,Yy,Yy,Yy,Yy]

/-! ### spec_l1Cur_second: function 335 -/
def spec_l1Cur_second.j0 : Nat → List Int → Int → Int → Int → Int → Int → Int → Int → Bool → Option (Int × Int × Int × Int × Int × Bool × Int × Int)
 | 0, _, _, _, _, _, _, _, _, _ => none
 | k + 1, x1000, x1001, x1002, x242000, x242001, x242002, x242003, x242004, x242005 => (spec_l1Cur_pick.f x1000 x1001 x1002 18).bind fun bt245 => (if bt245.1 = 0 then ((spec_l1Cur_among.f x1000 bt245.2.1 bt245.2.2 (([1024, (-1025), 0, 4611686018427387904] : List Int))).bind fun bt251 => (some (bt251.1, x242001, x242002, x242003, x242004, x242005, bt251.2.1, bt251.2.2))) else (if bt245.1 = 1 then ((spec_l1Cur_among.f x1000 bt245.2.1 bt245.2.2 (([1024, (-1024), 1025, (-4611686018427387904)] : List Int))).bind fun bt257 => (some (x242000, bt257.1, x242002, x242003, x242004, x242005, bt257.2.1, bt257.2.2))) else (if bt245.1 = 2 then ((spec_l1Cur_among.f x1000 bt245.2.1 bt245.2.2 (([10, 11, (-1)] : List Int))).bind fun bt263 => (some (x242000, x242001, bt263.1, x242003, x242004, x242005, bt263.2.1, bt263.2.2))) else (if bt245.1 = 3 then ((spec_l1Cur_word.f x1000 bt245.2.1 bt245.2.2).bind fun bt266 => (some (x242000, x242001, x242002, x242003, bt266.1, bt266.2.1, bt266.2.2.1, bt266.2.2.2))) else (some (x242000, x242001, x242002, x242003, x242004, x242005, bt245.2.1, bt245.2.2))))))
def spec_l1Cur_second.f (k : Nat) (s0_0 : List Int) (s0_1 : Int) (s0_2 : Int) (a1 : Int) : Option (Int × Int × Int × Int × Int × Bool × Int × Int) := (spec_l1Cur_pick.f s0_0 s0_1 s0_2 4).bind fun bt223 => (if 0 ≤ bt223.1 then ((spec_l1Cur_pick.f s0_0 bt223.2.1 bt223.2.2 (wrap64 ((shl .i64 4 bt223.1) + 3))).bind fun bt226 => ((spec_l1Cur_pick.f s0_0 bt226.2.1 bt226.2.2 (wrap64 ((shl .i64 2 bt223.1) + 3))).bind fun bt229 => ((spec_l1Cur_pick.f s0_0 bt229.2.1 bt229.2.2 3).bind fun bt232 => ((spec_l1Cur_pick.f s0_0 bt232.2.1 bt232.2.2 (wrap64 (a1 - 1))).bind fun bt235 => ((spec_l1Cur_one.f s0_0 bt235.2.1 bt235.2.2 2).bind fun bt238 => ((spec_l1Cur_one.f s0_0 bt238.2.1 bt238.2.2 4).bind fun bt242 => (if bt242.1 = true then (spec_l1Cur_second.j0 k s0_0 bt242.2.1 bt242.2.2 (wrap64 ((wrap64 (bt226.1 - (shl .i64 2 bt223.1))) - 1)) (wrap64 (-(shl .i64 1 bt223.1))) bt223.1 bt232.1 (wrap64 (2 + bt235.1)) bt238.1) else (spec_l1Cur_second.j0 k s0_0 bt242.2.1 bt242.2.2 (wrap64 ((wrap64 (bt226.1 - (shl .i64 2 bt223.1))) - 1)) (wrap64 ((wrap64 (bt229.1 - (shl .i64 1 bt223.1))) - 1)) bt223.1 bt232.1 (wrap64 (2 + bt235.1)) bt238.1)))))))) else (none))
theorem spec_l1Cur_second.mono_l : ∀ k, (∀ y0 y1 y2 y3 y4 y5 y6 y7 y8, LeO (spec_l1Cur_second.j0 k y0 y1 y2 y3 y4 y5 y6 y7 y8) (spec_l1Cur_second.j0 (k + 1) y0 y1 y2 y3 y4 y5 y6 y7 y8))
 | 0 => fun _ _ _ _ _ _ _ _ _ r h => by simp [spec_l1Cur_second.j0] at h
 | k + 1 => by
  have ih0 := spec_l1Cur_second.mono_l k
  intros
  unfold spec_l1Cur_second.j0
  exact xM
theorem spec_l1Cur_second.mono : ∀ a0 a1 a2 a3 k, LeO (spec_l1Cur_second.f k a0 a1 a2 a3) (spec_l1Cur_second.f (k + 1) a0 a1 a2 a3) := by
 intro a0 a1 a2 a3 k
 have ih0 := spec_l1Cur_second.mono_l k
 unfold spec_l1Cur_second.f
 exact xM
def spec_l1Cur_second.T2 : Bool × List (List Nat × List Nat) := (true, [([], []), ([], []), ([1], [1]), ([2], [2]), ([0, 3], [0, 3]), ([], []), ([5], [5]), ([4, 6], [4, 6]), ([7], [7]), ([], []), ([], []), ([10], [10]), ([11], [11]), ([9, 12, 4], [9, 12]), ([], []), ([14], [14]), ([13, 15], [13, 15]), ([16], [16]), ([], []), ([], []), ([19, 13], [19]), ([], []), ([], []), ([22], [22]), ([21, 23, 20], [21, 23]), ([24], [24]), ([], []), ([26, 24], [26]), ([25, 27], [25, 27]), ([8, 17, 18, 20, 28], [8, 17, 18, 20, 28]), ([], []), ([30, 29, 27, 0, 1, 2, 3, 4, 5, 6, 7, 8, 9, 10, 11, 12, 13, 14, 15, 16, 17, 18, 19, 20, 21, 22, 23, 24, 25, 26, 27, 28, 29, 30], [29, 30])])
def spec_l1Cur_second.B2 : List Nat := [0, 0, 2, 6, 15, 0, 32, 127, 255, 0, 0, 1024, 3072, 7711, 0, 16384, 65055, 130591, 0, 0, 540191, 0, 0, 4194304, 16268831, 33046047, 0, 100154911, 267927071, 536870911, 0, 2147483647]
theorem spec_l1Cur_second.tab2 : rtab .any (opsOf Try.f335 2) = spec_l1Cur_second.T2 := by kernel_rfl
theorem spec_l1Cur_second.bits2 : waitsOk spec_l1Cur_second.T2.2 spec_l1Cur_second.B2 = true := by kernel_rfl
set_option maxHeartbeats 200000000 in
set_option maxRecDepth 100000 in
theorem spec_l1Cur_second.calls (k : Nat) (g : Nat) (s0_0 : List Int) (s0_1 : Int) (s0_2 : Int) (a1 : Int) (r1 : Int) (r2 : Int) (r3 : Int) (r4 : Int) (r5 : Int) (r6 : Bool) (r7 : Int) (r8 : Int) (w0 w : World) (hI : IsS129 w0 w g s0_0 s0_1 s0_2) (hB : Below w0.heap.size w0 w) (h : spec_l1Cur_second.f k s0_0 s0_1 s0_2 a1 = some (r1, r2, r3, r4, r5, r6, r7, r8)) :
  Calls Try.prog 335 #[.pointer (some ⟨g, 0, none⟩), .int .i64 a1] w fun e w' => e = .returned (.agg #[.int .i64 r1, .int .i64 r2, .int .i64 r3, .int .i64 r4, .int .i64 r5, .bool r6]) ∧ IsS129 w0 w' g s0_0 r7 r8 ∧ Below w0.heap.size w0 w' ∧ KeepBut w w' g none := by
 have hu91 := Try.underlying91
 have hu46 := Try.underlying46
 have HI0 := xA hI
 have HK := xA (KeepBut.refl w g none)
 have HL := xA hB.size
 clear hI
 have HW0 := xA hB.size
 have HB := xA hB
 clear hB
 have H : ((spec_l1Cur_pick.f s0_0 s0_1 s0_2 4).bind fun bt223 => (if 0 ≤ bt223.1 then ((spec_l1Cur_pick.f s0_0 bt223.2.1 bt223.2.2 (wrap64 ((shl .i64 4 bt223.1) + 3))).bind fun bt226 => ((spec_l1Cur_pick.f s0_0 bt226.2.1 bt226.2.2 (wrap64 ((shl .i64 2 bt223.1) + 3))).bind fun bt229 => ((spec_l1Cur_pick.f s0_0 bt229.2.1 bt229.2.2 3).bind fun bt232 => ((spec_l1Cur_pick.f s0_0 bt232.2.1 bt232.2.2 (wrap64 (a1 - 1))).bind fun bt235 => ((spec_l1Cur_one.f s0_0 bt235.2.1 bt235.2.2 2).bind fun bt238 => ((spec_l1Cur_one.f s0_0 bt238.2.1 bt238.2.2 4).bind fun bt242 => (if bt242.1 = true then (spec_l1Cur_second.j0 k s0_0 bt242.2.1 bt242.2.2 (wrap64 ((wrap64 (bt226.1 - (shl .i64 2 bt223.1))) - 1)) (wrap64 (-(shl .i64 1 bt223.1))) bt223.1 bt232.1 (wrap64 (2 + bt235.1)) bt238.1) else (spec_l1Cur_second.j0 k s0_0 bt242.2.1 bt242.2.2 (wrap64 ((wrap64 (bt226.1 - (shl .i64 2 bt223.1))) - 1)) (wrap64 ((wrap64 (bt229.1 - (shl .i64 1 bt223.1))) - 1)) bt223.1 bt232.1 (wrap64 (2 + bt235.1)) bt238.1)))))))) else (none))) = some (r1, r2, r3, r4, r5, r6, r7, r8) := h
 clear h
 replace H := Option.bind_eq_some_iff.mp H
 obtain ⟨⟨t223, t224, t225⟩, A30, H⟩ := H
 (try dsimp only at H)
 have A3 := xA A30
 clear A30
 by_cases c4 : 0 ≤ t223
 rotate_left
 ·rw [if_neg c4] at H
  exact absurd H (by simp)

 rw [if_pos c4] at H
 have c4b0 := eq_true c4
 have c4b1 : decide (0 ≤ t223) = true := decide_eq_true c4
 clear c4
 obtain ⟨ji5, hji5⟩ : ∃ j_ : Int, (shl .i64 4 t223) = j_ := ⟨_, rfl⟩
 (first | rw [hji5] at H | simp only [hji5] at H)
 (try rw [hji5] at A3)
 obtain ⟨hji5_, hji5z, hji5y, hji5x⟩ := xSh hji5
 replace H := Option.bind_eq_some_iff.mp H
 obtain ⟨⟨t226, t227, t228⟩, A60, H⟩ := H
 (try dsimp only at H)
 have A6 := xA A60
 clear A60
 have c7b0 := eq_true (of_decide_eq_true (by first | (with_reducible assumption) | assumption) : 0 ≤ t223)
 obtain ⟨ji8, hji8⟩ : ∃ j_ : Int, (shl .i64 2 t223) = j_ := ⟨_, rfl⟩
 (first | rw [hji8] at H | simp only [hji8] at H)
 (try rw [hji8] at A3)
 (try rw [hji8] at A6)
 obtain ⟨hji8_, hji8z, hji8y, hji8x⟩ := xSh hji8
 have c9b0 := eq_true (of_decide_eq_true (by first | (with_reducible assumption) | assumption) : 0 ≤ t223)
 replace H := Option.bind_eq_some_iff.mp H
 obtain ⟨⟨t229, t230, t231⟩, A100, H⟩ := H
 (try dsimp only at H)
 have A10 := xA A100
 clear A100
 have c11b0 := eq_true (of_decide_eq_true (by first | (with_reducible assumption) | assumption) : 0 ≤ t223)
 obtain ⟨ji12, hji12⟩ : ∃ j_ : Int, (shl .i64 1 t223) = j_ := ⟨_, rfl⟩
 (first | rw [hji12] at H | simp only [hji12] at H)
 (try rw [hji12] at A3)
 (try rw [hji12] at A6)
 (try rw [hji12] at A10)
 have hji12_ : (IntKind.i64.wrap (1 * 2 ^ min t223.toNat 64)) = ji12 := hji12
 have hji12z : t223 ≤ 64 → (IntKind.i64.wrap (1 * 2 ^ t223.toNat)) = ji12 := shl_small hji12
 have hji12u : (IntKind.i64.wrap (2 ^ min t223.toNat 64)) = ji12 := by have h_ := hji12_; rw [Int.one_mul] at h_; exact h_
 have hji12v : t223 ≤ 64 → (IntKind.i64.wrap (2 ^ t223.toNat)) = ji12 := fun hle_ => by have h_ := hji12z hle_; rw [Int.one_mul] at h_; exact h_
 have hji12y : (wrap64 (1 * 2 ^ min t223.toNat 64)) = ji12 := (i64_w _).symm.trans hji12_
 have hji12x : t223 ≤ 64 → (wrap64 (1 * 2 ^ t223.toNat)) = ji12 := fun h_ => (i64_w _).symm.trans (hji12z h_)
 replace H := Option.bind_eq_some_iff.mp H
 obtain ⟨⟨t232, t233, t234⟩, A130, H⟩ := H
 (try dsimp only at H)
 have A13 := xA A130
 clear A130
 replace H := Option.bind_eq_some_iff.mp H
 obtain ⟨⟨t235, t236, t237⟩, A140, H⟩ := H
 (try dsimp only at H)
 have A14 := xA A140
 clear A140
 replace H := Option.bind_eq_some_iff.mp H
 obtain ⟨⟨t238, t239, t240⟩, A150, H⟩ := H
 (try dsimp only at H)
 have A15 := xA A150
 clear A150
 replace H := Option.bind_eq_some_iff.mp H
 obtain ⟨⟨t242, t243, t244⟩, A160, H⟩ := H
 (try dsimp only at H)
 have A16 := xA A160
 clear A160
 have HC17 := xA H
 clear H
 all_goals
  go_enter Try.func335, Try.ntmps335
  try go_wp2_with (first | (refine xg 4 rfl ?_; refine xV 4 #[.int .i64 0, .int .i64 0, .int .i64 0, .int .i64 0, .int .i64 0, .bool false] 91 ?_; intro gb222 hg w18 hbox hb; replace HB := xA (below_step (xB1 (IsS129.ge HI0.out) HB.out) hb); have BK222 := xA (hbox); have GW222 := xA ((by rw [hg]; exact (keep_size (w := w) (g := g) (row := none) (xH0 HK.out)) : w.heap.size ≤ gb222)); have GE222 := xA ((Nat.le_trans HW0.out (by rw [hg]; exact (keep_size (w := w) (g := g) (row := none) (xH0 HK.out)) : w.heap.size ≤ gb222) : w0.heap.size ≤ gb222)); replace HK := xA (KeepBut.trans (xH0 HK.out) (KeepBut.of_below hb g none) (.inl rfl)); have NB0_222 := xA ((by rw [hg]; exact Nat.ne_of_lt (IsS129.lt (show IsS129 w0 _ g s0_0 s0_1 s0_2 from xJ129_12_0 HI0.out)) : g ≠ gb222)); have NB222_0 := xA ((by rw [hg]; exact Nat.ne_of_gt (IsS129.lt (show IsS129 w0 _ g s0_0 s0_1 s0_2 from xJ129_12_0 HI0.out)) : gb222 ≠ g)); replace HI0 := xA (IsS129.below (xJ129_12_0 HI0.out) hb); clear hb hbox hg) | (refine xG (some 8) Try.func229 #[.pointer (some ⟨g, 0, none⟩), .int .i64 4] ?_; (with_reducible refine (spec_l1Cur_pick.calls g s0_0 s0_1 s0_2 4 t223 t224 t225 w0 _ ?side1 ?side2 A3.out).mono ?_); (case side1 => exact xJ129_12_1 NB0_222.out HI0.out); (case side2 => exact xB2 (IsS129.ge HI0.out) GE222.out HB.out); rintro e w19 ⟨rfl, hi, hb, hk⟩; refine ⟨_, rfl, ?_⟩; replace BK222 := xkk hk BK222 NB222_0; replace HK := xA (KeepBut.trans (xH1 GW222.out HK.out) hk (.inl rfl)); replace HB := xA (hb); replace HI0 := xA (hi); (try clear hb hk hi)))
  replace BK222 := xA (blk_drew BK222.out)
  replace HI0 := xA (IsS129.drew HI0.out)
  replace HK := xA (keep_drew HK.out)
  replace HB := xA (below_drew1 HB.out)
  refine start_ (n := 32) (S := fun w' => True) (ds := []) x4a0 (by kernel_rfl) rfl rfl trivial (fun hHeld => ?_); refine with_tabW spec_l1Cur_second.tab2 spec_l1Cur_second.bits2 (fun HT_ HW_ => ?_)
  generalize w19.drew = w20 at BK222 HI0 HK HB hHeld ⊢
  refine xP 0 9 x4a1 ?_
  refine xP 1 10 x4a2 ?_
  refine xP 2 11 x4a3 ?_
  refine xP 3 12 x4a4 ?_
  refine xP 5 14 x4a5 ?_
  refine xP 6 15 x4a6 ?_
  refine xP 9 18 x4a7 ?_
  refine xP 10 19 x4a8 ?_
  refine xP 11 20 x4a9 ?_
  refine xP 12 21 x4a10 ?_
  refine xP 14 23 x4a11 ?_
  refine xP 15 24 x4a12 ?_
  refine xP 18 27 x4a13 ?_
  refine xP 19 28 x4a14 ?_
  refine xP 21 30 x4a15 ?_
  refine xP 22 31 x4a16 ?_
  refine xP 23 32 x4a17 ?_
  refine xP 26 35 x4a18 ?_
  refine join_ (σ := Nat) 1 x4a19 (fun s_ => [(13, .int .i64 t226), (22, .int .i64 t229), (29, .int .i64 t232), (33, .int .i64 t235), (36, .bool t238), (6, .pointer (some ⟨s_, 0, none⟩)), (16, .int .i64 (wrap64 (t226 - (ji8)))), (17, .int .i64 (wrap64 ((wrap64 (t226 - (ji8))) - 1))), (25, .int .i64 (wrap64 (t229 - (ji12)))), (26, .int .i64 (wrap64 ((wrap64 (t229 - (ji12))) - 1))), (34, .int .i64 (wrap64 (2 + t235))), (37, .agg #[.int .i64 (wrap64 (2 + t235)), .bool t238]), (38, .agg #[.int .i64 (wrap64 ((wrap64 (t226 - (ji8))) - 1)), .int .i64 (wrap64 ((wrap64 (t229 - (ji12))) - 1)), .int .i64 t223, .int .i64 t232, .int .i64 (wrap64 (2 + t235)), .bool t238])]) (fun s_ w' => (w'.heap[gb222]? = some (.cells #[.int .i64 0, .int .i64 0, .int .i64 0, .int .i64 0, .int .i64 0, .bool false] 91 (0, 0))) ∧ (w'.heap[s_]? = some (.cells #[.int .i64 0, .int .i64 0, .int .i64 0, .int .i64 0, .int .i64 0, .bool false] 91 (0, 0))) ∧ (w.heap.size ≤ s_) ∧ (w0.heap.size ≤ s_) ∧ (g ≠ s_) ∧ (s_ ≠ g) ∧ (gb222 ≠ s_) ∧ (s_ ≠ gb222) ∧ (IsS129 w0 w' g s0_0 t239 t240) ∧ (KeepBut w w' g none) ∧ (Below w0.heap.size w0 w')) ?_ ?_
  rotate_left
  ·intro hJ4_13_20_24_27_30
   refine join_ (σ := Unit) 2 x4a20 (fun s_ => [(13, .int .i64 t226), (22, .int .i64 t229), (29, .int .i64 t232), (33, .int .i64 t235), (36, .bool t238), (16, .int .i64 (wrap64 (t226 - (ji8)))), (17, .int .i64 (wrap64 ((wrap64 (t226 - (ji8))) - 1))), (25, .int .i64 (wrap64 (t229 - (ji12)))), (26, .int .i64 (wrap64 ((wrap64 (t229 - (ji12))) - 1))), (34, .int .i64 (wrap64 (2 + t235))), (37, .agg #[.int .i64 (wrap64 (2 + t235)), .bool t238]), (38, .agg #[.int .i64 (wrap64 ((wrap64 (t226 - (ji8))) - 1)), .int .i64 (wrap64 ((wrap64 (t229 - (ji12))) - 1)), .int .i64 t223, .int .i64 t232, .int .i64 (wrap64 (2 + t235)), .bool t238])]) (fun s_ w' => (w'.heap[gb222]? = some (.cells #[.int .i64 0, .int .i64 0, .int .i64 0, .int .i64 0, .int .i64 0, .bool false] 91 (0, 0))) ∧ (IsS129 w0 w' g s0_0 t239 t240) ∧ (KeepBut w w' g none) ∧ (Below w0.heap.size w0 w')) ?_ ?_
   rotate_left
   ·intro hJ4_13_20_24_27
    refine join_ (σ := Nat) 4 x4a21 (fun s_ => [(13, .int .i64 t226), (22, .int .i64 t229), (29, .int .i64 t232), (33, .int .i64 t235), (6, .pointer (some ⟨s_, 0, none⟩)), (16, .int .i64 (wrap64 (t226 - (ji8)))), (17, .int .i64 (wrap64 ((wrap64 (t226 - (ji8))) - 1))), (25, .int .i64 (wrap64 (t229 - (ji12)))), (26, .int .i64 (wrap64 ((wrap64 (t229 - (ji12))) - 1))), (34, .int .i64 (wrap64 (2 + t235)))]) (fun s_ w' => (w'.heap[gb222]? = some (.cells #[.int .i64 0, .int .i64 0, .int .i64 0, .int .i64 0, .int .i64 0, .bool false] 91 (0, 0))) ∧ (w'.heap[s_]? = some (.cells #[.int .i64 0, .int .i64 0, .int .i64 0, .int .i64 0, .int .i64 0, .bool false] 91 (0, 0))) ∧ (w.heap.size ≤ s_) ∧ (w0.heap.size ≤ s_) ∧ (g ≠ s_) ∧ (s_ ≠ g) ∧ (gb222 ≠ s_) ∧ (s_ ≠ gb222) ∧ (IsS129 w0 w' g s0_0 t236 t237) ∧ (KeepBut w w' g none) ∧ (Below w0.heap.size w0 w')) ?_ ?_
    rotate_left
    ·intro hJ4_13_20_24_30
     refine join_ (σ := Unit) 5 x4a22 (fun s_ => [(13, .int .i64 t226), (22, .int .i64 t229), (29, .int .i64 t232), (33, .int .i64 t235), (16, .int .i64 (wrap64 (t226 - (ji8)))), (17, .int .i64 (wrap64 ((wrap64 (t226 - (ji8))) - 1))), (25, .int .i64 (wrap64 (t229 - (ji12)))), (26, .int .i64 (wrap64 ((wrap64 (t229 - (ji12))) - 1))), (34, .int .i64 (wrap64 (2 + t235)))]) (fun s_ w' => (w'.heap[gb222]? = some (.cells #[.int .i64 0, .int .i64 0, .int .i64 0, .int .i64 0, .int .i64 0, .bool false] 91 (0, 0))) ∧ (IsS129 w0 w' g s0_0 t236 t237) ∧ (KeepBut w w' g none) ∧ (Below w0.heap.size w0 w')) ?_ ?_
     rotate_left
     ·intro hJ4_13_20_24
      refine join_ (σ := Nat) 6 x4a23 (fun s_ => [(13, .int .i64 t226), (22, .int .i64 t229), (29, .int .i64 t232), (6, .pointer (some ⟨s_, 0, none⟩)), (16, .int .i64 (wrap64 (t226 - (ji8)))), (17, .int .i64 (wrap64 ((wrap64 (t226 - (ji8))) - 1))), (25, .int .i64 (wrap64 (t229 - (ji12)))), (26, .int .i64 (wrap64 ((wrap64 (t229 - (ji12))) - 1)))]) (fun s_ w' => (w'.heap[gb222]? = some (.cells #[.int .i64 0, .int .i64 0, .int .i64 0, .int .i64 0, .int .i64 0, .bool false] 91 (0, 0))) ∧ (w'.heap[s_]? = some (.cells #[.int .i64 0, .int .i64 0, .int .i64 0, .int .i64 0, .int .i64 0, .bool false] 91 (0, 0))) ∧ (w.heap.size ≤ s_) ∧ (w0.heap.size ≤ s_) ∧ (g ≠ s_) ∧ (s_ ≠ g) ∧ (gb222 ≠ s_) ∧ (s_ ≠ gb222) ∧ (IsS129 w0 w' g s0_0 t233 t234) ∧ (KeepBut w w' g none) ∧ (Below w0.heap.size w0 w')) ?_ ?_
      rotate_left
      ·intro hJ4_13_20_30
       refine join_ (σ := Unit) 7 x4a24 (fun s_ => [(13, .int .i64 t226), (22, .int .i64 t229), (29, .int .i64 t232), (16, .int .i64 (wrap64 (t226 - (ji8)))), (17, .int .i64 (wrap64 ((wrap64 (t226 - (ji8))) - 1))), (25, .int .i64 (wrap64 (t229 - (ji12)))), (26, .int .i64 (wrap64 ((wrap64 (t229 - (ji12))) - 1)))]) (fun s_ w' => (w'.heap[gb222]? = some (.cells #[.int .i64 0, .int .i64 0, .int .i64 0, .int .i64 0, .int .i64 0, .bool false] 91 (0, 0))) ∧ (IsS129 w0 w' g s0_0 t233 t234) ∧ (KeepBut w w' g none) ∧ (Below w0.heap.size w0 w')) ?_ ?_
       rotate_left
       ·intro hJ4_13_20
        refine join_ (σ := Nat) 7 x4a25 (fun s_ => [(13, .int .i64 t226), (22, .int .i64 t229), (6, .pointer (some ⟨s_, 0, none⟩)), (16, .int .i64 (wrap64 (t226 - (ji8)))), (17, .int .i64 (wrap64 ((wrap64 (t226 - (ji8))) - 1))), (25, .int .i64 (wrap64 (t229 - (ji12)))), (26, .int .i64 (wrap64 ((wrap64 (t229 - (ji12))) - 1)))]) (fun s_ w' => (w'.heap[gb222]? = some (.cells #[.int .i64 0, .int .i64 0, .int .i64 0, .int .i64 0, .int .i64 0, .bool false] 91 (0, 0))) ∧ (w'.heap[s_]? = some (.cells #[.int .i64 0, .int .i64 0, .int .i64 0, .int .i64 0, .int .i64 0, .bool false] 91 (0, 0))) ∧ (w.heap.size ≤ s_) ∧ (w0.heap.size ≤ s_) ∧ (g ≠ s_) ∧ (s_ ≠ g) ∧ (gb222 ≠ s_) ∧ (s_ ≠ gb222) ∧ (IsS129 w0 w' g s0_0 t230 t231) ∧ (KeepBut w w' g none) ∧ (Below w0.heap.size w0 w')) ?_ ?_
        rotate_left
        ·intro hJ4_13_30
         refine join_ (σ := Unit) 8 x4a26 (fun s_ => [(13, .int .i64 t226), (22, .int .i64 t229), (16, .int .i64 (wrap64 (t226 - (ji8)))), (17, .int .i64 (wrap64 ((wrap64 (t226 - (ji8))) - 1))), (25, .int .i64 (wrap64 (t229 - (ji12)))), (26, .int .i64 (wrap64 ((wrap64 (t229 - (ji12))) - 1)))]) (fun s_ w' => (w'.heap[gb222]? = some (.cells #[.int .i64 0, .int .i64 0, .int .i64 0, .int .i64 0, .int .i64 0, .bool false] 91 (0, 0))) ∧ (IsS129 w0 w' g s0_0 t230 t231) ∧ (KeepBut w w' g none) ∧ (Below w0.heap.size w0 w')) ?_ ?_
         rotate_left
         ·intro hJ4_13
          refine join_ (σ := Nat) 10 x4a27 (fun s_ => [(13, .int .i64 t226), (6, .pointer (some ⟨s_, 0, none⟩)), (16, .int .i64 (wrap64 (t226 - (ji8)))), (17, .int .i64 (wrap64 ((wrap64 (t226 - (ji8))) - 1)))]) (fun s_ w' => (w'.heap[gb222]? = some (.cells #[.int .i64 0, .int .i64 0, .int .i64 0, .int .i64 0, .int .i64 0, .bool false] 91 (0, 0))) ∧ (w'.heap[s_]? = some (.cells #[.int .i64 0, .int .i64 0, .int .i64 0, .int .i64 0, .int .i64 0, .bool false] 91 (0, 0))) ∧ (w.heap.size ≤ s_) ∧ (w0.heap.size ≤ s_) ∧ (g ≠ s_) ∧ (s_ ≠ g) ∧ (gb222 ≠ s_) ∧ (s_ ≠ gb222) ∧ (IsS129 w0 w' g s0_0 t227 t228) ∧ (KeepBut w w' g none) ∧ (Below w0.heap.size w0 w')) ?_ ?_
          rotate_left
          ·intro hJ4_30
           refine join_ (σ := Unit) 11 x4a28 (fun s_ => [(13, .int .i64 t226), (16, .int .i64 (wrap64 (t226 - (ji8)))), (17, .int .i64 (wrap64 ((wrap64 (t226 - (ji8))) - 1)))]) (fun s_ w' => (w'.heap[gb222]? = some (.cells #[.int .i64 0, .int .i64 0, .int .i64 0, .int .i64 0, .int .i64 0, .bool false] 91 (0, 0))) ∧ (IsS129 w0 w' g s0_0 t227 t228) ∧ (KeepBut w w' g none) ∧ (Below w0.heap.size w0 w')) ?_ ?_
           rotate_left
           ·intro hJ4
            refine join_ (σ := Nat) 13 x4a29 (fun s_ => [(6, .pointer (some ⟨s_, 0, none⟩))]) (fun s_ w' => (w'.heap[gb222]? = some (.cells #[.int .i64 0, .int .i64 0, .int .i64 0, .int .i64 0, .int .i64 0, .bool false] 91 (0, 0))) ∧ (w'.heap[s_]? = some (.cells #[.int .i64 0, .int .i64 0, .int .i64 0, .int .i64 0, .int .i64 0, .bool false] 91 (0, 0))) ∧ (w.heap.size ≤ s_) ∧ (w0.heap.size ≤ s_) ∧ (g ≠ s_) ∧ (s_ ≠ g) ∧ (gb222 ≠ s_) ∧ (s_ ≠ gb222) ∧ (IsS129 w0 w' g s0_0 t224 t225) ∧ (KeepBut w w' g none) ∧ (Below w0.heap.size w0 w')) ?_ ?_
            rotate_left
            ·intro hJ30
             refine xW 4 30 13 6 x4a30 x4a29 (fun K hK => ?_) (fun K hK => ?_)
             ·skip
              refine xY1 hji5 Try.func229 #[.pointer (some ⟨g, 0, none⟩), .int .i64 (wrap64 ((ji5) + 3))] ?_
              with_reducible refine (spec_l1Cur_pick.calls g s0_0 t224 t225 (wrap64 ((ji5) + 3)) t226 t227 t228 w0 _ ?side1 ?side2 A6.out).mono ?_
              (case side1 => exact xJ129_12_1 NB0_222.out HI0.out)
              (case side2 => exact xB2 (IsS129.ge HI0.out) GE222.out HB.out)
              rintro e w21 ⟨rfl, hi, hb, hk⟩
              refine ⟨_, rfl, ?_⟩
              replace BK222 := xkk hk BK222 NB222_0
              replace HK := xA (KeepBut.trans (xH1 GW222.out HK.out) hk (.inl rfl))
              replace HB := xA (hb)
              replace HI0 := xA (hi)
              (try clear hb); (try clear hb2); (try clear hk); (try clear hi)
              refine hK.out _ _ trivial (fun hHeld => ?_)
              clear hK K
              refine xN ?_
              refine xP 7 16 x4a31 ?_
              refine xP 8 17 x4a28 ?_
              exact xNJ (hJ4 () _ ⟨(xK BK222.out), (xJ129_12_1 NB0_222.out HI0.out), (xH1 GW222.out HK.out), (xB2 (IsS129.ge HI0.out) GE222.out HB.out)⟩)
             ·skip
              refine box_step ?hg (N := 6) ?hd (cs := #[.int .i64 0, .int .i64 0, .int .i64 0, .int .i64 0, .int .i64 0, .bool false]) (t := 91) ?hr ?_; (case hd => rfl); (case hg => rfl); (case hr => first | (go_simp; done) | (go_simp; rfl))
              intro gb241 hg w21 hbox hb
              replace HB := xA (below_step (xB2 (IsS129.ge HI0.out) GE222.out HB.out) hb)
              have BK241 := xA (hbox)
              have GW241 := xA ((by rw [hg]; exact (keep_size (w := w) (g := g) (row := none) (xH1 GW222.out HK.out)) : w.heap.size ≤ gb241))
              have GE241 := xA ((Nat.le_trans HW0.out (by rw [hg]; exact (keep_size (w := w) (g := g) (row := none) (xH1 GW222.out HK.out)) : w.heap.size ≤ gb241) : w0.heap.size ≤ gb241))
              replace HK := xA (KeepBut.trans (xH1 GW222.out HK.out) (KeepBut.of_below hb g none) (.inl rfl))
              have NB222_241 := xnl hg BK222
              have NB241_222 := xng hg BK222
              replace BK222 := xkb BK222 hb
              have NB0_241 := xA ((by rw [hg]; exact Nat.ne_of_lt (IsS129.lt (show IsS129 w0 _ g s0_0 t224 t225 from xJ129_12_1 NB0_222.out HI0.out)) : g ≠ gb241))
              have NB241_0 := xA ((by rw [hg]; exact Nat.ne_of_gt (IsS129.lt (show IsS129 w0 _ g s0_0 t224 t225 from xJ129_12_1 NB0_222.out HI0.out)) : gb241 ≠ g))
              replace HI0 := xA (IsS129.below (xJ129_12_1 NB0_222.out HI0.out) hb)
              clear hb hbox hg
              refine hK.out _ _ trivial (fun hHeld => ?_)
              clear hK K
              refine xN ?_
              exact xNJ (hJ30 (gb241) _ ⟨(xK BK222.out), (xK BK241.out), GW241.out, GE241.out, NB0_241.out, NB241_0.out, NB222_241.out, NB241_222.out, (xJ129_12_2 NB0_222.out NB0_241.out HI0.out), (xH2 GW222.out GW241.out HK.out), (xB3 (IsS129.ge HI0.out) GE222.out GE241.out HB.out)⟩)
            ·skip
             rintro gb241 w22 ⟨h0_, h1_, h2_, h3_, h4_, h5_, h6_, h7_, h8_, h9_, h10_⟩
             replace BK222 := xA h0_
             have BK241 := xA h1_
             have GW241 := xA h2_
             have GE241 := xA h3_
             have NB0_241 := xA h4_
             have NB241_0 := xA h5_
             have NB222_241 := xA h6_
             have NB241_222 := xA h7_
             replace HI0 := xA h8_
             replace HK := xA h9_
             replace HB := xA h10_
             clear h0_ h1_ h2_ h3_ h4_ h5_ h6_ h7_ h8_ h9_ h10_
             have hHeld := trivial
             refine xNp ?_
             refine xU 4 13 x4a32 (fun K hK => ?_)
             refine xY1 hji5 Try.func229 #[.pointer (some ⟨g, 0, none⟩), .int .i64 (wrap64 ((ji5) + 3))] ?_
             with_reducible refine (spec_l1Cur_pick.calls g s0_0 t224 t225 (wrap64 ((ji5) + 3)) t226 t227 t228 w0 _ ?side1 ?side2 A6.out).mono ?_
             (case side1 => exact xJ129_12_2 NB0_222.out NB0_241.out HI0.out)
             (case side2 => exact xB3 (IsS129.ge HI0.out) GE222.out GE241.out HB.out)
             rintro e w23 ⟨rfl, hi, hb, hk⟩
             refine ⟨_, rfl, ?_⟩
             replace BK222 := xkk hk BK222 NB222_0
             replace BK241 := xkk hk BK241 NB241_0
             replace HK := xA (KeepBut.trans (xH2 GW222.out GW241.out HK.out) hk (.inl rfl))
             replace HB := xA (hb)
             replace HI0 := xA (hi)
             (try clear hb); (try clear hb2); (try clear hk); (try clear hi)
             refine hK.out _ _ trivial (fun hHeld => ?_)
             clear hK K
             refine xN ?_
             refine xP 7 16 x4a33 ?_
             refine xP 8 17 x4a27 ?_
             exact xNJ (hJ4_30 (gb241) _ ⟨(xK BK222.out), (xK BK241.out), GW241.out, GE241.out, NB0_241.out, NB241_0.out, NB222_241.out, NB241_222.out, (xJ129_12_2 NB0_222.out NB0_241.out HI0.out), (xH2 GW222.out GW241.out HK.out), (xB3 (IsS129.ge HI0.out) GE222.out GE241.out HB.out)⟩)
           ·skip
            rintro _ w22 ⟨h0_, h1_, h2_, h3_⟩
            replace BK222 := xA h0_
            replace HI0 := xA h1_
            replace HK := xA h2_
            replace HB := xA h3_
            clear h0_ h1_ h2_ h3_
            have hHeld := trivial
            refine xNp ?_
            refine xW 13 30 22 6 x4a34 x4a27 (fun K hK => ?_) (fun K hK => ?_)
            ·skip
             refine xY1 hji8 Try.func229 #[.pointer (some ⟨g, 0, none⟩), .int .i64 (wrap64 ((ji8) + 3))] ?_
             with_reducible refine (spec_l1Cur_pick.calls g s0_0 t227 t228 (wrap64 ((ji8) + 3)) t229 t230 t231 w0 _ ?side1 ?side2 A10.out).mono ?_
             (case side1 => exact xJ129_12_1 NB0_222.out HI0.out)
             (case side2 => exact xB2 (IsS129.ge HI0.out) GE222.out HB.out)
             rintro e w23 ⟨rfl, hi, hb, hk⟩
             refine ⟨_, rfl, ?_⟩
             replace BK222 := xkk hk BK222 NB222_0
             replace HK := xA (KeepBut.trans (xH1 GW222.out HK.out) hk (.inl rfl))
             replace HB := xA (hb)
             replace HI0 := xA (hi)
             (try clear hb); (try clear hb2); (try clear hk); (try clear hi)
             refine hK.out _ _ trivial (fun hHeld => ?_)
             clear hK K
             refine xN ?_
             refine xP 16 25 x4a35 ?_
             refine xP 17 26 x4a26 ?_
             exact xNJ (hJ4_13 () _ ⟨(xK BK222.out), (xJ129_12_1 NB0_222.out HI0.out), (xH1 GW222.out HK.out), (xB2 (IsS129.ge HI0.out) GE222.out HB.out)⟩)
            ·skip
             refine box_step ?hg (N := 6) ?hd (cs := #[.int .i64 0, .int .i64 0, .int .i64 0, .int .i64 0, .int .i64 0, .bool false]) (t := 91) ?hr ?_; (case hd => rfl); (case hg => rfl); (case hr => first | (go_simp; done) | (go_simp; rfl))
             intro gb241 hg w23 hbox hb
             replace HB := xA (below_step (xB2 (IsS129.ge HI0.out) GE222.out HB.out) hb)
             have BK241 := xA (hbox)
             have GW241 := xA ((by rw [hg]; exact (keep_size (w := w) (g := g) (row := none) (xH1 GW222.out HK.out)) : w.heap.size ≤ gb241))
             have GE241 := xA ((Nat.le_trans HW0.out (by rw [hg]; exact (keep_size (w := w) (g := g) (row := none) (xH1 GW222.out HK.out)) : w.heap.size ≤ gb241) : w0.heap.size ≤ gb241))
             replace HK := xA (KeepBut.trans (xH1 GW222.out HK.out) (KeepBut.of_below hb g none) (.inl rfl))
             have NB222_241 := xnl hg BK222
             have NB241_222 := xng hg BK222
             replace BK222 := xkb BK222 hb
             have NB0_241 := xA ((by rw [hg]; exact Nat.ne_of_lt (IsS129.lt (show IsS129 w0 _ g s0_0 t227 t228 from xJ129_12_1 NB0_222.out HI0.out)) : g ≠ gb241))
             have NB241_0 := xA ((by rw [hg]; exact Nat.ne_of_gt (IsS129.lt (show IsS129 w0 _ g s0_0 t227 t228 from xJ129_12_1 NB0_222.out HI0.out)) : gb241 ≠ g))
             replace HI0 := xA (IsS129.below (xJ129_12_1 NB0_222.out HI0.out) hb)
             clear hb hbox hg
             refine hK.out _ _ trivial (fun hHeld => ?_)
             clear hK K
             refine xN ?_
             exact xNJ (hJ4_30 (gb241) _ ⟨(xK BK222.out), (xK BK241.out), GW241.out, GE241.out, NB0_241.out, NB241_0.out, NB222_241.out, NB241_222.out, (xJ129_12_2 NB0_222.out NB0_241.out HI0.out), (xH2 GW222.out GW241.out HK.out), (xB3 (IsS129.ge HI0.out) GE222.out GE241.out HB.out)⟩)
          ·skip
           rintro gb241 w23 ⟨h0_, h1_, h2_, h3_, h4_, h5_, h6_, h7_, h8_, h9_, h10_⟩
           replace BK222 := xA h0_
           have BK241 := xA h1_
           have GW241 := xA h2_
           have GE241 := xA h3_
           have NB0_241 := xA h4_
           have NB241_0 := xA h5_
           have NB222_241 := xA h6_
           have NB241_222 := xA h7_
           replace HI0 := xA h8_
           replace HK := xA h9_
           replace HB := xA h10_
           clear h0_ h1_ h2_ h3_ h4_ h5_ h6_ h7_ h8_ h9_ h10_
           have hHeld := trivial
           refine xNp ?_
           refine xU 13 22 x4a36 (fun K hK => ?_)
           refine xY1 hji8 Try.func229 #[.pointer (some ⟨g, 0, none⟩), .int .i64 (wrap64 ((ji8) + 3))] ?_
           with_reducible refine (spec_l1Cur_pick.calls g s0_0 t227 t228 (wrap64 ((ji8) + 3)) t229 t230 t231 w0 _ ?side1 ?side2 A10.out).mono ?_
           (case side1 => exact xJ129_12_2 NB0_222.out NB0_241.out HI0.out)
           (case side2 => exact xB3 (IsS129.ge HI0.out) GE222.out GE241.out HB.out)
           rintro e w24 ⟨rfl, hi, hb, hk⟩
           refine ⟨_, rfl, ?_⟩
           replace BK222 := xkk hk BK222 NB222_0
           replace BK241 := xkk hk BK241 NB241_0
           replace HK := xA (KeepBut.trans (xH2 GW222.out GW241.out HK.out) hk (.inl rfl))
           replace HB := xA (hb)
           replace HI0 := xA (hi)
           (try clear hb); (try clear hb2); (try clear hk); (try clear hi)
           refine hK.out _ _ trivial (fun hHeld => ?_)
           clear hK K
           refine xN ?_
           refine xP 16 25 x4a37 ?_
           refine xP 17 26 x4a25 ?_
           exact xNJ (hJ4_13_30 (gb241) _ ⟨(xK BK222.out), (xK BK241.out), GW241.out, GE241.out, NB0_241.out, NB241_0.out, NB222_241.out, NB241_222.out, (xJ129_12_2 NB0_222.out NB0_241.out HI0.out), (xH2 GW222.out GW241.out HK.out), (xB3 (IsS129.ge HI0.out) GE222.out GE241.out HB.out)⟩)
         ·skip
          rintro _ w23 ⟨h0_, h1_, h2_, h3_⟩
          replace BK222 := xA h0_
          replace HI0 := xA h1_
          replace HK := xA h2_
          replace HB := xA h3_
          clear h0_ h1_ h2_ h3_
          have hHeld := trivial
          refine xNp ?_
          refine xW 20 30 29 6 x4a24 x4a25 (fun K hK => ?_) (fun K hK => ?_)
          ·skip
           refine xY Try.func229 #[.pointer (some ⟨g, 0, none⟩), .int .i64 3] ?_
           with_reducible refine (spec_l1Cur_pick.calls g s0_0 t230 t231 3 t232 t233 t234 w0 _ ?side1 ?side2 A13.out).mono ?_
           (case side1 => exact xJ129_12_1 NB0_222.out HI0.out)
           (case side2 => exact xB2 (IsS129.ge HI0.out) GE222.out HB.out)
           rintro e w24 ⟨rfl, hi, hb, hk⟩
           refine ⟨_, rfl, ?_⟩
           replace BK222 := xkk hk BK222 NB222_0
           replace HK := xA (KeepBut.trans (xH1 GW222.out HK.out) hk (.inl rfl))
           replace HB := xA (hb)
           replace HI0 := xA (hi)
           (try clear hb); (try clear hb2); (try clear hk); (try clear hi)
           refine hK.out _ _ trivial (fun hHeld => ?_)
           clear hK K
           refine xN ?_
           exact xNJ (hJ4_13_20 () _ ⟨(xK BK222.out), (xJ129_12_1 NB0_222.out HI0.out), (xH1 GW222.out HK.out), (xB2 (IsS129.ge HI0.out) GE222.out HB.out)⟩)
          ·skip
           refine box_step ?hg (N := 6) ?hd (cs := #[.int .i64 0, .int .i64 0, .int .i64 0, .int .i64 0, .int .i64 0, .bool false]) (t := 91) ?hr ?_; (case hd => rfl); (case hg => rfl); (case hr => first | (go_simp; done) | (go_simp; rfl))
           intro gb241 hg w24 hbox hb
           replace HB := xA (below_step (xB2 (IsS129.ge HI0.out) GE222.out HB.out) hb)
           have BK241 := xA (hbox)
           have GW241 := xA ((by rw [hg]; exact (keep_size (w := w) (g := g) (row := none) (xH1 GW222.out HK.out)) : w.heap.size ≤ gb241))
           have GE241 := xA ((Nat.le_trans HW0.out (by rw [hg]; exact (keep_size (w := w) (g := g) (row := none) (xH1 GW222.out HK.out)) : w.heap.size ≤ gb241) : w0.heap.size ≤ gb241))
           replace HK := xA (KeepBut.trans (xH1 GW222.out HK.out) (KeepBut.of_below hb g none) (.inl rfl))
           have NB222_241 := xnl hg BK222
           have NB241_222 := xng hg BK222
           replace BK222 := xkb BK222 hb
           have NB0_241 := xA ((by rw [hg]; exact Nat.ne_of_lt (IsS129.lt (show IsS129 w0 _ g s0_0 t230 t231 from xJ129_12_1 NB0_222.out HI0.out)) : g ≠ gb241))
           have NB241_0 := xA ((by rw [hg]; exact Nat.ne_of_gt (IsS129.lt (show IsS129 w0 _ g s0_0 t230 t231 from xJ129_12_1 NB0_222.out HI0.out)) : gb241 ≠ g))
           replace HI0 := xA (IsS129.below (xJ129_12_1 NB0_222.out HI0.out) hb)
           clear hb hbox hg
           refine hK.out _ _ trivial (fun hHeld => ?_)
           clear hK K
           refine xN ?_
           exact xNJ (hJ4_13_30 (gb241) _ ⟨(xK BK222.out), (xK BK241.out), GW241.out, GE241.out, NB0_241.out, NB241_0.out, NB222_241.out, NB241_222.out, (xJ129_12_2 NB0_222.out NB0_241.out HI0.out), (xH2 GW222.out GW241.out HK.out), (xB3 (IsS129.ge HI0.out) GE222.out GE241.out HB.out)⟩)
        ·skip
         rintro gb241 w24 ⟨h0_, h1_, h2_, h3_, h4_, h5_, h6_, h7_, h8_, h9_, h10_⟩
         replace BK222 := xA h0_
         have BK241 := xA h1_
         have GW241 := xA h2_
         have GE241 := xA h3_
         have NB0_241 := xA h4_
         have NB241_0 := xA h5_
         have NB222_241 := xA h6_
         have NB241_222 := xA h7_
         replace HI0 := xA h8_
         replace HK := xA h9_
         replace HB := xA h10_
         clear h0_ h1_ h2_ h3_ h4_ h5_ h6_ h7_ h8_ h9_ h10_
         have hHeld := trivial
         refine xNp ?_
         refine xU 20 29 x4a23 (fun K hK => ?_)
         refine xY Try.func229 #[.pointer (some ⟨g, 0, none⟩), .int .i64 3] ?_
         with_reducible refine (spec_l1Cur_pick.calls g s0_0 t230 t231 3 t232 t233 t234 w0 _ ?side1 ?side2 A13.out).mono ?_
         (case side1 => exact xJ129_12_2 NB0_222.out NB0_241.out HI0.out)
         (case side2 => exact xB3 (IsS129.ge HI0.out) GE222.out GE241.out HB.out)
         rintro e w25 ⟨rfl, hi, hb, hk⟩
         refine ⟨_, rfl, ?_⟩
         replace BK222 := xkk hk BK222 NB222_0
         replace BK241 := xkk hk BK241 NB241_0
         replace HK := xA (KeepBut.trans (xH2 GW222.out GW241.out HK.out) hk (.inl rfl))
         replace HB := xA (hb)
         replace HI0 := xA (hi)
         (try clear hb); (try clear hb2); (try clear hk); (try clear hi)
         refine hK.out _ _ trivial (fun hHeld => ?_)
         clear hK K
         refine xN ?_
         exact xNJ (hJ4_13_20_30 (gb241) _ ⟨(xK BK222.out), (xK BK241.out), GW241.out, GE241.out, NB0_241.out, NB241_0.out, NB222_241.out, NB241_222.out, (xJ129_12_2 NB0_222.out NB0_241.out HI0.out), (xH2 GW222.out GW241.out HK.out), (xB3 (IsS129.ge HI0.out) GE222.out GE241.out HB.out)⟩)
       ·skip
        rintro _ w24 ⟨h0_, h1_, h2_, h3_⟩
        replace BK222 := xA h0_
        replace HI0 := xA h1_
        replace HK := xA h2_
        replace HB := xA h3_
        clear h0_ h1_ h2_ h3_
        have hHeld := trivial
        refine xNp ?_
        refine xW 24 30 33 6 x4a38 x4a23 (fun K hK => ?_) (fun K hK => ?_)
        ·skip
         refine xY Try.func229 #[.pointer (some ⟨g, 0, none⟩), .int .i64 (wrap64 (a1 - 1))] ?_
         with_reducible refine (spec_l1Cur_pick.calls g s0_0 t233 t234 (wrap64 (a1 - 1)) t235 t236 t237 w0 _ ?side1 ?side2 A14.out).mono ?_
         (case side1 => exact xJ129_12_1 NB0_222.out HI0.out)
         (case side2 => exact xB2 (IsS129.ge HI0.out) GE222.out HB.out)
         rintro e w25 ⟨rfl, hi, hb, hk⟩
         refine ⟨_, rfl, ?_⟩
         replace BK222 := xkk hk BK222 NB222_0
         replace HK := xA (KeepBut.trans (xH1 GW222.out HK.out) hk (.inl rfl))
         replace HB := xA (hb)
         replace HI0 := xA (hi)
         (try clear hb); (try clear hb2); (try clear hk); (try clear hi)
         refine hK.out _ _ trivial (fun hHeld => ?_)
         clear hK K
         refine xN ?_
         refine xP 25 34 x4a22 ?_
         exact xNJ (hJ4_13_20_24 () _ ⟨(xK BK222.out), (xJ129_12_1 NB0_222.out HI0.out), (xH1 GW222.out HK.out), (xB2 (IsS129.ge HI0.out) GE222.out HB.out)⟩)
        ·skip
         refine box_step ?hg (N := 6) ?hd (cs := #[.int .i64 0, .int .i64 0, .int .i64 0, .int .i64 0, .int .i64 0, .bool false]) (t := 91) ?hr ?_; (case hd => rfl); (case hg => rfl); (case hr => first | (go_simp; done) | (go_simp; rfl))
         intro gb241 hg w25 hbox hb
         replace HB := xA (below_step (xB2 (IsS129.ge HI0.out) GE222.out HB.out) hb)
         have BK241 := xA (hbox)
         have GW241 := xA ((by rw [hg]; exact (keep_size (w := w) (g := g) (row := none) (xH1 GW222.out HK.out)) : w.heap.size ≤ gb241))
         have GE241 := xA ((Nat.le_trans HW0.out (by rw [hg]; exact (keep_size (w := w) (g := g) (row := none) (xH1 GW222.out HK.out)) : w.heap.size ≤ gb241) : w0.heap.size ≤ gb241))
         replace HK := xA (KeepBut.trans (xH1 GW222.out HK.out) (KeepBut.of_below hb g none) (.inl rfl))
         have NB222_241 := xnl hg BK222
         have NB241_222 := xng hg BK222
         replace BK222 := xkb BK222 hb
         have NB0_241 := xA ((by rw [hg]; exact Nat.ne_of_lt (IsS129.lt (show IsS129 w0 _ g s0_0 t233 t234 from xJ129_12_1 NB0_222.out HI0.out)) : g ≠ gb241))
         have NB241_0 := xA ((by rw [hg]; exact Nat.ne_of_gt (IsS129.lt (show IsS129 w0 _ g s0_0 t233 t234 from xJ129_12_1 NB0_222.out HI0.out)) : gb241 ≠ g))
         replace HI0 := xA (IsS129.below (xJ129_12_1 NB0_222.out HI0.out) hb)
         clear hb hbox hg
         refine hK.out _ _ trivial (fun hHeld => ?_)
         clear hK K
         refine xN ?_
         exact xNJ (hJ4_13_20_30 (gb241) _ ⟨(xK BK222.out), (xK BK241.out), GW241.out, GE241.out, NB0_241.out, NB241_0.out, NB222_241.out, NB241_222.out, (xJ129_12_2 NB0_222.out NB0_241.out HI0.out), (xH2 GW222.out GW241.out HK.out), (xB3 (IsS129.ge HI0.out) GE222.out GE241.out HB.out)⟩)
      ·skip
       rintro gb241 w25 ⟨h0_, h1_, h2_, h3_, h4_, h5_, h6_, h7_, h8_, h9_, h10_⟩
       replace BK222 := xA h0_
       have BK241 := xA h1_
       have GW241 := xA h2_
       have GE241 := xA h3_
       have NB0_241 := xA h4_
       have NB241_0 := xA h5_
       have NB222_241 := xA h6_
       have NB241_222 := xA h7_
       replace HI0 := xA h8_
       replace HK := xA h9_
       replace HB := xA h10_
       clear h0_ h1_ h2_ h3_ h4_ h5_ h6_ h7_ h8_ h9_ h10_
       have hHeld := trivial
       refine xNp ?_
       refine xU 24 33 x4a39 (fun K hK => ?_)
       refine xY Try.func229 #[.pointer (some ⟨g, 0, none⟩), .int .i64 (wrap64 (a1 - 1))] ?_
       with_reducible refine (spec_l1Cur_pick.calls g s0_0 t233 t234 (wrap64 (a1 - 1)) t235 t236 t237 w0 _ ?side1 ?side2 A14.out).mono ?_
       (case side1 => exact xJ129_12_2 NB0_222.out NB0_241.out HI0.out)
       (case side2 => exact xB3 (IsS129.ge HI0.out) GE222.out GE241.out HB.out)
       rintro e w26 ⟨rfl, hi, hb, hk⟩
       refine ⟨_, rfl, ?_⟩
       replace BK222 := xkk hk BK222 NB222_0
       replace BK241 := xkk hk BK241 NB241_0
       replace HK := xA (KeepBut.trans (xH2 GW222.out GW241.out HK.out) hk (.inl rfl))
       replace HB := xA (hb)
       replace HI0 := xA (hi)
       (try clear hb); (try clear hb2); (try clear hk); (try clear hi)
       refine hK.out _ _ trivial (fun hHeld => ?_)
       clear hK K
       refine xN ?_
       refine xP 25 34 x4a21 ?_
       exact xNJ (hJ4_13_20_24_30 (gb241) _ ⟨(xK BK222.out), (xK BK241.out), GW241.out, GE241.out, NB0_241.out, NB241_0.out, NB222_241.out, NB241_222.out, (xJ129_12_2 NB0_222.out NB0_241.out HI0.out), (xH2 GW222.out GW241.out HK.out), (xB3 (IsS129.ge HI0.out) GE222.out GE241.out HB.out)⟩)
     ·skip
      rintro _ w25 ⟨h0_, h1_, h2_, h3_⟩
      replace BK222 := xA h0_
      replace HI0 := xA h1_
      replace HK := xA h2_
      replace HB := xA h3_
      clear h0_ h1_ h2_ h3_
      have hHeld := trivial
      refine xNp ?_
      refine xW 27 30 36 6 x4a40 x4a21 (fun K hK => ?_) (fun K hK => ?_)
      ·skip
       refine xY Try.func227 #[.pointer (some ⟨g, 0, none⟩), .int .i64 2] ?_
       with_reducible refine (spec_l1Cur_one.calls g s0_0 t236 t237 2 t238 t239 t240 w0 _ ?side1 ?side2 A15.out).mono ?_
       (case side1 => exact xJ129_12_1 NB0_222.out HI0.out)
       (case side2 => exact xB2 (IsS129.ge HI0.out) GE222.out HB.out)
       rintro e w26 ⟨rfl, hi, hb, hk⟩
       refine ⟨_, rfl, ?_⟩
       replace BK222 := xkk hk BK222 NB222_0
       replace HK := xA (KeepBut.trans (xH1 GW222.out HK.out) hk (.inl rfl))
       replace HB := xA (hb)
       replace HI0 := xA (hi)
       (try clear hb); (try clear hb2); (try clear hk); (try clear hi)
       refine hK.out _ _ trivial (fun hHeld => ?_)
       clear hK K
       refine xN ?_
       refine xP 28 37 x4a41 ?_
       refine xP 29 38 x4a20 ?_
       exact xNJ (hJ4_13_20_24_27 () _ ⟨(xK BK222.out), (xJ129_12_1 NB0_222.out HI0.out), (xH1 GW222.out HK.out), (xB2 (IsS129.ge HI0.out) GE222.out HB.out)⟩)
      ·skip
       refine box_step ?hg (N := 6) ?hd (cs := #[.int .i64 0, .int .i64 0, .int .i64 0, .int .i64 0, .int .i64 0, .bool false]) (t := 91) ?hr ?_; (case hd => rfl); (case hg => rfl); (case hr => first | (go_simp; done) | (go_simp; rfl))
       intro gb241 hg w26 hbox hb
       replace HB := xA (below_step (xB2 (IsS129.ge HI0.out) GE222.out HB.out) hb)
       have BK241 := xA (hbox)
       have GW241 := xA ((by rw [hg]; exact (keep_size (w := w) (g := g) (row := none) (xH1 GW222.out HK.out)) : w.heap.size ≤ gb241))
       have GE241 := xA ((Nat.le_trans HW0.out (by rw [hg]; exact (keep_size (w := w) (g := g) (row := none) (xH1 GW222.out HK.out)) : w.heap.size ≤ gb241) : w0.heap.size ≤ gb241))
       replace HK := xA (KeepBut.trans (xH1 GW222.out HK.out) (KeepBut.of_below hb g none) (.inl rfl))
       have NB222_241 := xnl hg BK222
       have NB241_222 := xng hg BK222
       replace BK222 := xkb BK222 hb
       have NB0_241 := xA ((by rw [hg]; exact Nat.ne_of_lt (IsS129.lt (show IsS129 w0 _ g s0_0 t236 t237 from xJ129_12_1 NB0_222.out HI0.out)) : g ≠ gb241))
       have NB241_0 := xA ((by rw [hg]; exact Nat.ne_of_gt (IsS129.lt (show IsS129 w0 _ g s0_0 t236 t237 from xJ129_12_1 NB0_222.out HI0.out)) : gb241 ≠ g))
       replace HI0 := xA (IsS129.below (xJ129_12_1 NB0_222.out HI0.out) hb)
       clear hb hbox hg
       refine hK.out _ _ trivial (fun hHeld => ?_)
       clear hK K
       refine xN ?_
       exact xNJ (hJ4_13_20_24_30 (gb241) _ ⟨(xK BK222.out), (xK BK241.out), GW241.out, GE241.out, NB0_241.out, NB241_0.out, NB222_241.out, NB241_222.out, (xJ129_12_2 NB0_222.out NB0_241.out HI0.out), (xH2 GW222.out GW241.out HK.out), (xB3 (IsS129.ge HI0.out) GE222.out GE241.out HB.out)⟩)
    ·skip
     rintro gb241 w26 ⟨h0_, h1_, h2_, h3_, h4_, h5_, h6_, h7_, h8_, h9_, h10_⟩
     replace BK222 := xA h0_
     have BK241 := xA h1_
     have GW241 := xA h2_
     have GE241 := xA h3_
     have NB0_241 := xA h4_
     have NB241_0 := xA h5_
     have NB222_241 := xA h6_
     have NB241_222 := xA h7_
     replace HI0 := xA h8_
     replace HK := xA h9_
     replace HB := xA h10_
     clear h0_ h1_ h2_ h3_ h4_ h5_ h6_ h7_ h8_ h9_ h10_
     have hHeld := trivial
     refine xNp ?_
     refine xU 27 36 x4a42 (fun K hK => ?_)
     refine xY Try.func227 #[.pointer (some ⟨g, 0, none⟩), .int .i64 2] ?_
     with_reducible refine (spec_l1Cur_one.calls g s0_0 t236 t237 2 t238 t239 t240 w0 _ ?side1 ?side2 A15.out).mono ?_
     (case side1 => exact xJ129_12_2 NB0_222.out NB0_241.out HI0.out)
     (case side2 => exact xB3 (IsS129.ge HI0.out) GE222.out GE241.out HB.out)
     rintro e w27 ⟨rfl, hi, hb, hk⟩
     refine ⟨_, rfl, ?_⟩
     replace BK222 := xkk hk BK222 NB222_0
     replace BK241 := xkk hk BK241 NB241_0
     replace HK := xA (KeepBut.trans (xH2 GW222.out GW241.out HK.out) hk (.inl rfl))
     replace HB := xA (hb)
     replace HI0 := xA (hi)
     (try clear hb); (try clear hb2); (try clear hk); (try clear hi)
     refine hK.out _ _ trivial (fun hHeld => ?_)
     clear hK K
     refine xN ?_
     refine xP 28 37 x4a43 ?_
     refine xP 29 38 x4a19 ?_
     exact xNJ (hJ4_13_20_24_27_30 (gb241) _ ⟨(xK BK222.out), (xK BK241.out), GW241.out, GE241.out, NB0_241.out, NB241_0.out, NB222_241.out, NB241_222.out, (xJ129_12_2 NB0_222.out NB0_241.out HI0.out), (xH2 GW222.out GW241.out HK.out), (xB3 (IsS129.ge HI0.out) GE222.out GE241.out HB.out)⟩)
   ·skip
    rintro _ w26 ⟨h0_, h1_, h2_, h3_⟩
    replace BK222 := xA h0_
    replace HI0 := xA h1_
    replace HK := xA h2_
    replace HB := xA h3_
    clear h0_ h1_ h2_ h3_
    have hHeld := trivial
    refine xNp ?_
    refine xU 30 6 x4a19 (fun K hK => ?_)
    refine box_step ?hg (N := 6) ?hd (cs := #[.int .i64 0, .int .i64 0, .int .i64 0, .int .i64 0, .int .i64 0, .bool false]) (t := 91) ?hr ?_; (case hd => rfl); (case hg => rfl); (case hr => first | (go_simp; done) | (go_simp; rfl))
    intro gb241 hg w27 hbox hb
    replace HB := xA (below_step (xB2 (IsS129.ge HI0.out) GE222.out HB.out) hb)
    have BK241 := xA (hbox)
    have GW241 := xA ((by rw [hg]; exact (keep_size (w := w) (g := g) (row := none) (xH1 GW222.out HK.out)) : w.heap.size ≤ gb241))
    have GE241 := xA ((Nat.le_trans HW0.out (by rw [hg]; exact (keep_size (w := w) (g := g) (row := none) (xH1 GW222.out HK.out)) : w.heap.size ≤ gb241) : w0.heap.size ≤ gb241))
    replace HK := xA (KeepBut.trans (xH1 GW222.out HK.out) (KeepBut.of_below hb g none) (.inl rfl))
    have NB222_241 := xnl hg BK222
    have NB241_222 := xng hg BK222
    replace BK222 := xkb BK222 hb
    have NB0_241 := xA ((by rw [hg]; exact Nat.ne_of_lt (IsS129.lt (show IsS129 w0 _ g s0_0 t239 t240 from xJ129_12_1 NB0_222.out HI0.out)) : g ≠ gb241))
    have NB241_0 := xA ((by rw [hg]; exact Nat.ne_of_gt (IsS129.lt (show IsS129 w0 _ g s0_0 t239 t240 from xJ129_12_1 NB0_222.out HI0.out)) : gb241 ≠ g))
    replace HI0 := xA (IsS129.below (xJ129_12_1 NB0_222.out HI0.out) hb)
    clear hb hbox hg
    refine hK.out _ _ trivial (fun hHeld => ?_)
    clear hK K
    refine xN ?_
    exact xNJ (hJ4_13_20_24_27_30 (gb241) _ ⟨(xK BK222.out), (xK BK241.out), GW241.out, GE241.out, NB0_241.out, NB241_0.out, NB222_241.out, NB241_222.out, (xJ129_12_2 NB0_222.out NB0_241.out HI0.out), (xH2 GW222.out GW241.out HK.out), (xB3 (IsS129.ge HI0.out) GE222.out GE241.out HB.out)⟩)
  rintro gb241 w27 ⟨h0_, h1_, h2_, h3_, h4_, h5_, h6_, h7_, h8_, h9_, h10_⟩
  replace BK222 := xA h0_
  have BK241 := xA h1_
  have GW241 := xA h2_
  have GE241 := xA h3_
  have NB0_241 := xA h4_
  have NB241_0 := xA h5_
  have NB222_241 := xA h6_
  have NB241_222 := xA h7_
  replace HI0 := xA h8_
  replace HK := xA h9_
  replace HB := xA h10_
  clear h0_ h1_ h2_ h3_ h4_ h5_ h6_ h7_ h8_ h9_ h10_
  have hHeld := trivial
  refine xNp ?_
  refine one_ (i := 31) (N := none) x4a44 rfl rfl (one_of HT_.out (by kernel_rfl)) (by decide) (fun K hK => ?_)
  have hs28 : w27.cell? ⟨gb241, 0, none⟩ = some (.int .i64 0) := (blk_cell BK241.out 0).trans rfl
  have hfs28 := blk_frozen BK241.out 0
  have hns28_0 := NB222_241.out
  have hms28_0 := NB241_222.out
  have hs29 : w27.cell? ⟨gb241, 1, none⟩ = some (.int .i64 0) := (blk_cell BK241.out 1).trans rfl
  have hfs29 := blk_frozen BK241.out 1
  have hns29_0 := NB222_241.out
  have hms29_0 := NB241_222.out
  have hs30 : w27.cell? ⟨gb241, 2, none⟩ = some (.int .i64 0) := (blk_cell BK241.out 2).trans rfl
  have hfs30 := blk_frozen BK241.out 2
  have hns30_0 := NB222_241.out
  have hms30_0 := NB241_222.out
  have hs31 : w27.cell? ⟨gb241, 3, none⟩ = some (.int .i64 0) := (blk_cell BK241.out 3).trans rfl
  have hfs31 := blk_frozen BK241.out 3
  have hns31_0 := NB222_241.out
  have hms31_0 := NB241_222.out
  have hs32 : w27.cell? ⟨gb241, 4, none⟩ = some (.int .i64 0) := (blk_cell BK241.out 4).trans rfl
  have hfs32 := blk_frozen BK241.out 4
  have hns32_0 := NB222_241.out
  have hms32_0 := NB241_222.out
  have hs33 : w27.cell? ⟨gb241, 5, none⟩ = some (.bool false) := (blk_cell BK241.out 5).trans rfl
  have hfs33 := blk_frozen BK241.out 5
  have hns33_0 := NB222_241.out
  have hms33_0 := NB241_222.out
  refine skip_ (w1 := ?_) (by rfl) rfl ?_ ?_
  rotate_left
  ·go_simp
   rfl
  refine hK.out _ _ trivial (fun hHeld => ?_)
  clear hK K
  refine xDn ?_
  go_upto_if 40 with (first | (refine xG (some 40) Try.func227 #[.pointer (some ⟨g, 0, none⟩), .int .i64 4] ?_; (with_reducible refine (spec_l1Cur_one.calls g s0_0 t239 t240 4 t242 t243 t244 w0 _ ?side1 ?side2 A16.out).mono ?_); (case side1 => exact xJ129_12_2 NB0_222.out NB0_241.out HI0.out); (case side2 => exact xB3 (IsS129.ge HI0.out) GE222.out GE241.out HB.out); rintro e w34 ⟨rfl, hi, hb, hk⟩; refine ⟨_, rfl, ?_⟩; replace BK222 := xA (KeepBut.blk hk (xF1 NB222_241.out BK222.out) NB222_0.out (by simp)); replace BK241 := xA (KeepBut.blk hk (g' := gb241) (o := .cells #[.int .i64 (wrap64 ((wrap64 (t226 - (ji8))) - 1)), .int .i64 (wrap64 ((wrap64 (t229 - (ji12))) - 1)), .int .i64 t223, .int .i64 t232, .int .i64 (wrap64 (2 + t235)), .bool t238] 91 (0, 0)) (xPt0 BK241.out) NB241_0.out (by simp)); replace HK := xA (KeepBut.trans (xH2 GW222.out GW241.out HK.out) hk (.inl rfl)); replace HB := xA (hb); replace HI0 := xA (hi); (try clear hb hk hi)))
  (try simp only [Act.put, List.setIfInBounds_toArray, List.set_cons_zero, List.set_cons_succ])
  go_cut [] from 7 to 40 (fun wc => ∃ (kq : Nat) (x242001_16 : Int), Aside0 (spec_l1Cur_second.j0 kq s0_0 t243 t244 (wrap64 ((wrap64 (t226 - (ji8))) - 1)) x242001_16 t223 t232 (wrap64 (2 + t235)) t238 = some (r1, r2, r3, r4, r5, r6, r7, r8)) ∧ Aside0 (kq ≤ k) ∧ Aside0 (wc.heap[gb222]? = some (.cells #[.int .i64 0, .int .i64 0, .int .i64 0, .int .i64 0, .int .i64 0, .bool false] 91 (0, 0))) ∧ Aside0 (wc.heap[gb241]? = some (.cells #[.int .i64 (wrap64 ((wrap64 (t226 - (ji8))) - 1)), .int .i64 x242001_16, .int .i64 t223, .int .i64 t232, .int .i64 (wrap64 (2 + t235)), .bool t238] 91 (0, 0))) ∧ Aside0 (IsS129 w0 wc g s0_0 t243 t244) ∧ Aside0 (KeepBut w wc g none) ∧ Aside0 (Below w0.heap.size w0 wc))
  case first => as_aux_lemma =>
   have H := HC17.out
   clear HC17
   by_cases c35 : t242 = true
   rotate_left
   ·replace c35 := Bool.eq_false_iff.mpr c35
    subst c35
    rw [if_neg (show ¬ (false = true) by decide)] at H
    have H' := xA H
    clear H
    go_wp2
    go_meet
    case rel => exact ⟨_, (wrap64 ((wrap64 (t229 - (ji12))) - 1)), H', ⟨by first | omega | exact Nat.le_refl _⟩, ⟨xK BK222.out⟩, ⟨xK BK241.out⟩, ⟨xJ129_12_2 NB0_222.out NB0_241.out HI0.out⟩, ⟨xH2 GW222.out GW241.out HK.out⟩, ⟨xB3 (IsS129.ge HI0.out) GE222.out GE241.out HB.out⟩⟩
   subst c35
   rw [if_pos rfl] at H
   have c36b0 := eq_true (of_decide_eq_true (by first | (with_reducible assumption) | assumption) : 0 ≤ t223)
   have H' := xA H
   clear H
   have hnb37 := NB241_222.out
   have hnc37 := NB222_241.out
   have hnb38 := NB241_0.out
   have hnc38 := NB0_241.out
   replace hz241 := blk_cell BK241.out; replace hy241 := blk_frozen BK241.out
   go_wp2
   go_meet
   case rel => exact ⟨_, (wrap64 (-(ji12))), H', ⟨by first | omega | exact Nat.le_refl _⟩, ⟨by (with_reducible repeat (first | refine blk_drewN ?_ _ | refine blk_drew ?_ | refine blk_alloc ?_ _)); refine blk_far ?_ NB222_241.out _; (with_reducible repeat (first | refine blk_drewN ?_ _ | refine blk_drew ?_ | refine blk_alloc ?_ _)); exact BK222.out⟩, ⟨by (with_reducible repeat (first | refine blk_drewN ?_ _ | refine blk_drew ?_ | refine blk_alloc ?_ _)); refine blk_put (cs := #[.int .i64 (wrap64 ((wrap64 (t226 - (ji8))) - 1)), .int .i64 (wrap64 ((wrap64 (t229 - (ji12))) - 1)), .int .i64 t223, .int .i64 t232, .int .i64 (wrap64 (2 + t235)), .bool t238]) ?_ 1 _ rfl; (with_reducible repeat (first | refine blk_drewN ?_ _ | refine blk_drew ?_ | refine blk_alloc ?_ _)); exact BK241.out⟩, ⟨xJ129_12_2 NB0_222.out NB0_241.out HI0.out⟩, ⟨xH2 GW222.out GW241.out HK.out⟩, ⟨xB3 (IsS129.ge HI0.out) GE222.out GE241.out HB.out⟩⟩
  case rest =>
   clear HC17
   obtain ⟨kq, x242001_16, HA, HJ16, BK222, BK241, HI0, HK, HB⟩ := hcut
   cases kq with
   | zero => exact absurd HA.out (by simp [spec_l1Cur_second.j0])
   | succ kj16 =>
    have H := HA.out
    clear HA
    simp only [spec_l1Cur_second.j0] at H
    replace H := Option.bind_eq_some_iff.mp H
    obtain ⟨⟨t245, t246, t247⟩, A400, H⟩ := H
    (try dsimp only at H)
    have A40 := xA A400
    clear A400
    by_cases c41 : t245 = 0
    ·rw [if_pos c41] at H
     have c41b0 : (t245 == 0) = true := beq_iff_eq.mpr c41
     have c41b1 : (t245 != 0) = false := bne_eq_false_iff_eq.mpr c41
     clear c41
     obtain ⟨y248, hy248⟩ : ∃ y_ : List Int, y_ = (([1024, (-1025), 0, 4611686018427387904] : List Int)) := ⟨_, rfl⟩
     replace H : ((spec_l1Cur_among.f s0_0 t246 t247 y248).bind fun bt251 => (some (bt251.1, x242001_16, t223, t232, (wrap64 (2 + t235)), t238, bt251.2.1, bt251.2.2))) = some (r1, r2, r3, r4, r5, r6, r7, r8) := by first | (rw [hy248]; with_reducible exact H) | (have H2_ := (Option.bind_some _ _).symm.trans H; rw [hy248]; with_reducible exact H2_) | (have H2_ := (Option.bind_some _ _).symm.trans H; with_reducible exact H2_) | with_reducible exact H | (rw [hy248]; exact H) | exact H
     have Ny248 := xA hy248
     clear hy248
     replace H := Option.bind_eq_some_iff.mp H
     obtain ⟨⟨t251, t252, t253⟩, A420, H⟩ := H
     (try dsimp only at H)
     have A42 := xA A420
     clear A420
     simp only [Option.some.injEq, Prod.mk.injEq] at H
     obtain ⟨rfl, rfl, rfl, rfl, rfl, rfl, rfl, rfl⟩ := H
     go_wp2_with (first | (refine xq rfl ?_; first | (refine xG (some 46) Try.func229 #[.pointer (some ⟨g, 0, none⟩), .int .i64 18] ?_; (with_reducible refine (spec_l1Cur_pick.calls g s0_0 t243 t244 18 t245 t246 t247 w0 _ ?side1 ?side2 A40.out).mono ?_); (case side1 => exact xJ129_12_2 NB0_222.out NB0_241.out HI0.out); (case side2 => exact xB3 (IsS129.ge HI0.out) GE222.out GE241.out HB.out); rintro e w43 ⟨rfl, hi, hb, hk⟩; refine ⟨_, rfl, ?_⟩; replace BK222 := xkk hk BK222 NB222_0; replace BK241 := xkk hk BK241 NB241_0; replace HK := xA (KeepBut.trans (xH2 GW222.out GW241.out HK.out) hk (.inl rfl)); replace HB := xA (hb); replace HI0 := xA (hi); (try clear hb hk hi)) | (refine xG (some 51) Try.func228 #[.pointer (some ⟨g, 0, none⟩), .slice Ao46 y248.length co46] ?_; (with_reducible refine (spec_l1Cur_among.calls g s0_0 t246 t247 _ _ y248 t251 t252 t253 w0 _ ?side1 ?side2 ?side3 ?side4 ?side5 A42.out).mono ?_); (case side1 => exact xJ129_12_2 NB0_222.out NB0_241.out HI0.out); (case side2 => exact xB3 (IsS129.ge HI0.out) GE222.out GE241.out HB.out); (case side3 => exact xC ((Kd.R_reads' HO250.out).2.2)); (case side4 => exact (Kd.R_reads' HO250.out).2.1); (case side5 => exact far_slice (IsS129.own_ne HI0.out HO250.out (by decide))); rintro e w47 ⟨rfl, hi, hb, hk⟩; refine ⟨_, rfl, ?_⟩; replace BK222 := xkk hk BK222 NB222_0; replace BK241 := xkk hk BK241 NB241_0; replace HO250 := xA (Kd.R_mono (Kd.R_keep (IsS129.apart (show IsS129 w0 _ g s0_0 t246 t247 from xJ129_12_2 NB0_222.out NB0_241.out HI0.out) (xR HO250.out) (by decide)) hk (fun _ h => h.2)) (fun _ h => h.1)); replace HK := xA (KeepBut.trans (xH2 GW222.out GW241.out HK.out) hk (.inl rfl)); replace HB := xA (hb); replace HI0 := xA (hi); (try clear hb hk hi); have hnb48 := NB241_222.out; have hnc48 := NB222_241.out; have hnb49 := NB241_0.out; have hnc49 := NB0_241.out; replace hz241 := blk_cell BK241.out; replace hy241 := blk_frozen BK241.out; have hnb51 := NB222_0.out; have hnc51 := NB0_222.out; replace hz222 := blk_cell BK222.out; replace hy222 := blk_frozen BK222.out)) | ((with_reducible refine gate_dst (N := 50) rfl ?_); refine Kd.R_lit (Kd.int .i64) _ 3 ?hg (N := 50) ?hd (xs := ([1024, (-1025), 0, 4611686018427387904] : List Int)) (inner := [.int .i64 1024, .int .i64 (-1025), .int .i64 0, .int .i64 4611686018427387904]) (ok := fun _ => True) (okp := fun _ => True) ?hr ?hp (fun _ hk => hk) trivial (Below.refl _ _) (Nat.le_refl _) (by simp) ?_; (case hd => rfl); (case hg => rfl); (case hr => first | (go_simp; done) | (go_simp; rfl)); (case hp => exact (Reps.one (show Kd.M (Kd.int .i64) _ _ _ 1024 [.int .i64 1024] from rfl) (Reps.one (show Kd.M (Kd.int .i64) _ _ _ (-1025) [.int .i64 (-1025)] from rfl) (Reps.one (show Kd.M (Kd.int .i64) _ _ _ 0 [.int .i64 0] from rfl) (Reps.one (show Kd.M (Kd.int .i64) _ _ _ 4611686018427387904 [.int .i64 4611686018427387904] from rfl) (Reps.none _ _)))))); intro v249 w44 ho45 hb hg_ hnew_; clear hg_ hnew_; (first | rw [← Ny248.out] at ho45 | (simp only [Int.reduceToNat] at ho45; rw [← Ny248.out] at ho45)); have HO250 := xA (Kd.R_lower ho45 (keep_size (w := w) (g := g) (row := none) (xH2 GW222.out GW241.out HK.out))); replace BK222 := xkb BK222 hb; replace BK241 := xkb BK241 hb; replace HK := xA (KeepBut.trans (xH2 GW222.out GW241.out HK.out) (KeepBut.of_below hb g none) (.inl rfl)); replace HB := xA (below_step (xB3 (IsS129.ge HI0.out) GE222.out GE241.out HB.out) hb); replace HI0 := xA (IsS129.below (xJ129_12_2 NB0_222.out NB0_241.out HI0.out) hb); clear hb ho45; obtain ⟨Ao46, co46, eo46⟩ := Kd.R_slice HO250.out; subst eo46))
     refine bodyPost_ret (results_cell_row rfl _ _ gb222 91 #[.int .i64 t251, .int .i64 x242001_16, .int .i64 t223, .int .i64 t232, .int .i64 (wrap64 (2 + t235)), .bool t238] (0, 0) _ rfl (xPt1 NB222_241.out BK222.out) Try.underlying91 rfl (by kernel_rfl)) rfl ?_
     exact ⟨by first | rfl | (simp [errW_none, errW_some] <;> rfl) | (simp only [← hji5, ← hji8, ← hji12]; first | rfl | (simp [errW_none, errW_some] <;> rfl)) | (simp [*, errW_none, errW_some] <;> rfl), xJ129_12_2 NB0_222.out NB0_241.out HI0.out, xB3 (IsS129.ge HI0.out) GE222.out GE241.out HB.out, xH2 GW222.out GW241.out HK.out⟩
    rw [if_neg c41] at H
    have c41b0 : (t245 == 0) = false := beq_eq_false_iff_ne.mpr c41
    have c41b1 : (t245 != 0) = true := bne_iff_ne.mpr c41
    by_cases c53 : t245 = 1
    ·rw [if_pos c53] at H
     have c53b0 : (t245 == 1) = true := beq_iff_eq.mpr c53
     have c53b1 : (t245 != 1) = false := bne_eq_false_iff_eq.mpr c53
     clear c53
     obtain ⟨y254, hy254⟩ : ∃ y_ : List Int, y_ = (([1024, (-1024), 1025, (-4611686018427387904)] : List Int)) := ⟨_, rfl⟩
     replace H : ((spec_l1Cur_among.f s0_0 t246 t247 y254).bind fun bt257 => (some ((wrap64 ((wrap64 (t226 - (ji8))) - 1)), bt257.1, t223, t232, (wrap64 (2 + t235)), t238, bt257.2.1, bt257.2.2))) = some (r1, r2, r3, r4, r5, r6, r7, r8) := by first | (rw [hy254]; with_reducible exact H) | (have H2_ := (Option.bind_some _ _).symm.trans H; rw [hy254]; with_reducible exact H2_) | (have H2_ := (Option.bind_some _ _).symm.trans H; with_reducible exact H2_) | with_reducible exact H | (rw [hy254]; exact H) | exact H
     have Ny254 := xA hy254
     clear hy254
     replace H := Option.bind_eq_some_iff.mp H
     obtain ⟨⟨t257, t258, t259⟩, A540, H⟩ := H
     (try dsimp only at H)
     have A54 := xA A540
     clear A540
     simp only [Option.some.injEq, Prod.mk.injEq] at H
     obtain ⟨rfl, rfl, rfl, rfl, rfl, rfl, rfl, rfl⟩ := H
     go_wp2_with (first | (refine xq rfl ?_; first | (refine xG (some 46) Try.func229 #[.pointer (some ⟨g, 0, none⟩), .int .i64 18] ?_; (with_reducible refine (spec_l1Cur_pick.calls g s0_0 t243 t244 18 t245 t246 t247 w0 _ ?side1 ?side2 A40.out).mono ?_); (case side1 => exact xJ129_12_2 NB0_222.out NB0_241.out HI0.out); (case side2 => exact xB3 (IsS129.ge HI0.out) GE222.out GE241.out HB.out); rintro e w55 ⟨rfl, hi, hb, hk⟩; refine ⟨_, rfl, ?_⟩; replace BK222 := xkk hk BK222 NB222_0; replace BK241 := xkk hk BK241 NB241_0; replace HK := xA (KeepBut.trans (xH2 GW222.out GW241.out HK.out) hk (.inl rfl)); replace HB := xA (hb); replace HI0 := xA (hi); (try clear hb hk hi)) | (refine xG (some 57) Try.func228 #[.pointer (some ⟨g, 0, none⟩), .slice Ao58 y254.length co58] ?_; (with_reducible refine (spec_l1Cur_among.calls g s0_0 t246 t247 _ _ y254 t257 t258 t259 w0 _ ?side1 ?side2 ?side3 ?side4 ?side5 A54.out).mono ?_); (case side1 => exact xJ129_12_2 NB0_222.out NB0_241.out HI0.out); (case side2 => exact xB3 (IsS129.ge HI0.out) GE222.out GE241.out HB.out); (case side3 => exact xC ((Kd.R_reads' HO256.out).2.2)); (case side4 => exact (Kd.R_reads' HO256.out).2.1); (case side5 => exact far_slice (IsS129.own_ne HI0.out HO256.out (by decide))); rintro e w59 ⟨rfl, hi, hb, hk⟩; refine ⟨_, rfl, ?_⟩; replace BK222 := xkk hk BK222 NB222_0; replace BK241 := xkk hk BK241 NB241_0; replace HO256 := xA (Kd.R_mono (Kd.R_keep (IsS129.apart (show IsS129 w0 _ g s0_0 t246 t247 from xJ129_12_2 NB0_222.out NB0_241.out HI0.out) (xR HO256.out) (by decide)) hk (fun _ h => h.2)) (fun _ h => h.1)); replace HK := xA (KeepBut.trans (xH2 GW222.out GW241.out HK.out) hk (.inl rfl)); replace HB := xA (hb); replace HI0 := xA (hi); (try clear hb hk hi); have hnb60 := NB241_222.out; have hnc60 := NB222_241.out; have hnb61 := NB241_0.out; have hnc61 := NB0_241.out; replace hz241 := blk_cell BK241.out; replace hy241 := blk_frozen BK241.out; have hnb63 := NB222_0.out; have hnc63 := NB0_222.out; replace hz222 := blk_cell BK222.out; replace hy222 := blk_frozen BK222.out)) | ((with_reducible refine gate_dst (N := 56) rfl ?_); refine Kd.R_lit (Kd.int .i64) _ 3 ?hg (N := 56) ?hd (xs := ([1024, (-1024), 1025, (-4611686018427387904)] : List Int)) (inner := [.int .i64 1024, .int .i64 (-1024), .int .i64 1025, .int .i64 (-4611686018427387904)]) (ok := fun _ => True) (okp := fun _ => True) ?hr ?hp (fun _ hk => hk) trivial (Below.refl _ _) (Nat.le_refl _) (by simp) ?_; (case hd => rfl); (case hg => rfl); (case hr => first | (go_simp; done) | (go_simp; rfl)); (case hp => exact (Reps.one (show Kd.M (Kd.int .i64) _ _ _ 1024 [.int .i64 1024] from rfl) (Reps.one (show Kd.M (Kd.int .i64) _ _ _ (-1024) [.int .i64 (-1024)] from rfl) (Reps.one (show Kd.M (Kd.int .i64) _ _ _ 1025 [.int .i64 1025] from rfl) (Reps.one (show Kd.M (Kd.int .i64) _ _ _ (-4611686018427387904) [.int .i64 (-4611686018427387904)] from rfl) (Reps.none _ _)))))); intro v255 w56 ho57 hb hg_ hnew_; clear hg_ hnew_; (first | rw [← Ny254.out] at ho57 | (simp only [Int.reduceToNat] at ho57; rw [← Ny254.out] at ho57)); have HO256 := xA (Kd.R_lower ho57 (keep_size (w := w) (g := g) (row := none) (xH2 GW222.out GW241.out HK.out))); replace BK222 := xkb BK222 hb; replace BK241 := xkb BK241 hb; replace HK := xA (KeepBut.trans (xH2 GW222.out GW241.out HK.out) (KeepBut.of_below hb g none) (.inl rfl)); replace HB := xA (below_step (xB3 (IsS129.ge HI0.out) GE222.out GE241.out HB.out) hb); replace HI0 := xA (IsS129.below (xJ129_12_2 NB0_222.out NB0_241.out HI0.out) hb); clear hb ho57; obtain ⟨Ao58, co58, eo58⟩ := Kd.R_slice HO256.out; subst eo58))
     refine bodyPost_ret (results_cell_row rfl _ _ gb222 91 #[.int .i64 (wrap64 ((wrap64 (t226 - (ji8))) - 1)), .int .i64 t257, .int .i64 t223, .int .i64 t232, .int .i64 (wrap64 (2 + t235)), .bool t238] (0, 0) _ rfl (xPt1 NB222_241.out BK222.out) Try.underlying91 rfl (by kernel_rfl)) rfl ?_
     exact ⟨by first | rfl | (simp [errW_none, errW_some] <;> rfl) | (simp only [← hji5, ← hji8, ← hji12]; first | rfl | (simp [errW_none, errW_some] <;> rfl)) | (simp [*, errW_none, errW_some] <;> rfl), xJ129_12_2 NB0_222.out NB0_241.out HI0.out, xB3 (IsS129.ge HI0.out) GE222.out GE241.out HB.out, xH2 GW222.out GW241.out HK.out⟩
    rw [if_neg c53] at H
    have c53b0 : (t245 == 1) = false := beq_eq_false_iff_ne.mpr c53
    have c53b1 : (t245 != 1) = true := bne_iff_ne.mpr c53
    by_cases c65 : t245 = 2
    ·rw [if_pos c65] at H
     have c65b0 : (t245 == 2) = true := beq_iff_eq.mpr c65
     have c65b1 : (t245 != 2) = false := bne_eq_false_iff_eq.mpr c65
     clear c65
     obtain ⟨y260, hy260⟩ : ∃ y_ : List Int, y_ = (([10, 11, (-1)] : List Int)) := ⟨_, rfl⟩
     replace H : ((spec_l1Cur_among.f s0_0 t246 t247 y260).bind fun bt263 => (some ((wrap64 ((wrap64 (t226 - (ji8))) - 1)), x242001_16, bt263.1, t232, (wrap64 (2 + t235)), t238, bt263.2.1, bt263.2.2))) = some (r1, r2, r3, r4, r5, r6, r7, r8) := by first | (rw [hy260]; with_reducible exact H) | (have H2_ := (Option.bind_some _ _).symm.trans H; rw [hy260]; with_reducible exact H2_) | (have H2_ := (Option.bind_some _ _).symm.trans H; with_reducible exact H2_) | with_reducible exact H | (rw [hy260]; exact H) | exact H
     have Ny260 := xA hy260
     clear hy260
     replace H := Option.bind_eq_some_iff.mp H
     obtain ⟨⟨t263, t264, t265⟩, A660, H⟩ := H
     (try dsimp only at H)
     have A66 := xA A660
     clear A660
     simp only [Option.some.injEq, Prod.mk.injEq] at H
     obtain ⟨rfl, rfl, rfl, rfl, rfl, rfl, rfl, rfl⟩ := H
     go_wp2_with (first | (refine xq rfl ?_; first | (refine xG (some 46) Try.func229 #[.pointer (some ⟨g, 0, none⟩), .int .i64 18] ?_; (with_reducible refine (spec_l1Cur_pick.calls g s0_0 t243 t244 18 t245 t246 t247 w0 _ ?side1 ?side2 A40.out).mono ?_); (case side1 => exact xJ129_12_2 NB0_222.out NB0_241.out HI0.out); (case side2 => exact xB3 (IsS129.ge HI0.out) GE222.out GE241.out HB.out); rintro e w67 ⟨rfl, hi, hb, hk⟩; refine ⟨_, rfl, ?_⟩; replace BK222 := xkk hk BK222 NB222_0; replace BK241 := xkk hk BK241 NB241_0; replace HK := xA (KeepBut.trans (xH2 GW222.out GW241.out HK.out) hk (.inl rfl)); replace HB := xA (hb); replace HI0 := xA (hi); (try clear hb hk hi)) | (refine xG (some 63) Try.func228 #[.pointer (some ⟨g, 0, none⟩), .slice Ao70 y260.length co70] ?_; (with_reducible refine (spec_l1Cur_among.calls g s0_0 t246 t247 _ _ y260 t263 t264 t265 w0 _ ?side1 ?side2 ?side3 ?side4 ?side5 A66.out).mono ?_); (case side1 => exact xJ129_12_2 NB0_222.out NB0_241.out HI0.out); (case side2 => exact xB3 (IsS129.ge HI0.out) GE222.out GE241.out HB.out); (case side3 => exact xC ((Kd.R_reads' HO262.out).2.2)); (case side4 => exact (Kd.R_reads' HO262.out).2.1); (case side5 => exact far_slice (IsS129.own_ne HI0.out HO262.out (by decide))); rintro e w71 ⟨rfl, hi, hb, hk⟩; refine ⟨_, rfl, ?_⟩; replace BK222 := xkk hk BK222 NB222_0; replace BK241 := xkk hk BK241 NB241_0; replace HO262 := xA (Kd.R_mono (Kd.R_keep (IsS129.apart (show IsS129 w0 _ g s0_0 t246 t247 from xJ129_12_2 NB0_222.out NB0_241.out HI0.out) (xR HO262.out) (by decide)) hk (fun _ h => h.2)) (fun _ h => h.1)); replace HK := xA (KeepBut.trans (xH2 GW222.out GW241.out HK.out) hk (.inl rfl)); replace HB := xA (hb); replace HI0 := xA (hi); (try clear hb hk hi); have hnb72 := NB241_222.out; have hnc72 := NB222_241.out; have hnb73 := NB241_0.out; have hnc73 := NB0_241.out; replace hz241 := blk_cell BK241.out; replace hy241 := blk_frozen BK241.out; have hnb75 := NB222_0.out; have hnc75 := NB0_222.out; replace hz222 := blk_cell BK222.out; replace hy222 := blk_frozen BK222.out)) | ((with_reducible refine gate_dst (N := 62) rfl ?_); refine Kd.R_lit (Kd.int .i64) _ 3 ?hg (N := 62) ?hd (xs := ([10, 11, (-1)] : List Int)) (inner := [.int .i64 10, .int .i64 11, .int .i64 (-1)]) (ok := fun _ => True) (okp := fun _ => True) ?hr ?hp (fun _ hk => hk) trivial (Below.refl _ _) (Nat.le_refl _) (by simp) ?_; (case hd => rfl); (case hg => rfl); (case hr => first | (go_simp; done) | (go_simp; rfl)); (case hp => exact (Reps.one (show Kd.M (Kd.int .i64) _ _ _ 10 [.int .i64 10] from rfl) (Reps.one (show Kd.M (Kd.int .i64) _ _ _ 11 [.int .i64 11] from rfl) (Reps.one (show Kd.M (Kd.int .i64) _ _ _ (-1) [.int .i64 (-1)] from rfl) (Reps.none _ _))))); intro v261 w68 ho69 hb hg_ hnew_; clear hg_ hnew_; (first | rw [← Ny260.out] at ho69 | (simp only [Int.reduceToNat] at ho69; rw [← Ny260.out] at ho69)); have HO262 := xA (Kd.R_lower ho69 (keep_size (w := w) (g := g) (row := none) (xH2 GW222.out GW241.out HK.out))); replace BK222 := xkb BK222 hb; replace BK241 := xkb BK241 hb; replace HK := xA (KeepBut.trans (xH2 GW222.out GW241.out HK.out) (KeepBut.of_below hb g none) (.inl rfl)); replace HB := xA (below_step (xB3 (IsS129.ge HI0.out) GE222.out GE241.out HB.out) hb); replace HI0 := xA (IsS129.below (xJ129_12_2 NB0_222.out NB0_241.out HI0.out) hb); clear hb ho69; obtain ⟨Ao70, co70, eo70⟩ := Kd.R_slice HO262.out; subst eo70))
     refine bodyPost_ret (results_cell_row rfl _ _ gb222 91 #[.int .i64 (wrap64 ((wrap64 (t226 - (ji8))) - 1)), .int .i64 x242001_16, .int .i64 t263, .int .i64 t232, .int .i64 (wrap64 (2 + t235)), .bool t238] (0, 0) _ rfl (xPt1 NB222_241.out BK222.out) Try.underlying91 rfl (by kernel_rfl)) rfl ?_
     exact ⟨by first | rfl | (simp [errW_none, errW_some] <;> rfl) | (simp only [← hji5, ← hji8, ← hji12]; first | rfl | (simp [errW_none, errW_some] <;> rfl)) | (simp [*, errW_none, errW_some] <;> rfl), xJ129_12_2 NB0_222.out NB0_241.out HI0.out, xB3 (IsS129.ge HI0.out) GE222.out GE241.out HB.out, xH2 GW222.out GW241.out HK.out⟩
    rw [if_neg c65] at H
    have c65b0 : (t245 == 2) = false := beq_eq_false_iff_ne.mpr c65
    have c65b1 : (t245 != 2) = true := bne_iff_ne.mpr c65
    by_cases c77 : t245 = 3
    rotate_left
    ·rw [if_neg c77] at H
     have c77b0 : (t245 == 3) = false := beq_eq_false_iff_ne.mpr c77
     have c77b1 : (t245 != 3) = true := bne_iff_ne.mpr c77
     simp only [Option.some.injEq, Prod.mk.injEq] at H
     obtain ⟨rfl, rfl, rfl, rfl, rfl, rfl, rfl, rfl⟩ := H
     go_wp2_with (first | (refine xG (some 46) Try.func229 #[.pointer (some ⟨g, 0, none⟩), .int .i64 18] ?_; (with_reducible refine (spec_l1Cur_pick.calls g s0_0 t243 t244 18 t245 t246 t247 w0 _ ?side1 ?side2 A40.out).mono ?_); (case side1 => exact xJ129_12_2 NB0_222.out NB0_241.out HI0.out); (case side2 => exact xB3 (IsS129.ge HI0.out) GE222.out GE241.out HB.out); rintro e w86 ⟨rfl, hi, hb, hk⟩; refine ⟨_, rfl, ?_⟩; replace BK222 := xkk hk BK222 NB222_0; replace BK241 := xkk hk BK241 NB241_0; replace HK := xA (KeepBut.trans (xH2 GW222.out GW241.out HK.out) hk (.inl rfl)); replace HB := xA (hb); replace HI0 := xA (hi); (try clear hb hk hi); have hnb87 := NB241_222.out; have hnc87 := NB222_241.out; have hnb88 := NB241_0.out; have hnc88 := NB0_241.out; replace hz241 := blk_cell BK241.out; replace hy241 := blk_frozen BK241.out; have hnb90 := NB222_0.out; have hnc90 := NB0_222.out; replace hz222 := blk_cell BK222.out; replace hy222 := blk_frozen BK222.out))
     refine bodyPost_ret (results_cell_row rfl _ _ gb222 91 #[.int .i64 (wrap64 ((wrap64 (t226 - (ji8))) - 1)), .int .i64 x242001_16, .int .i64 t223, .int .i64 t232, .int .i64 (wrap64 (2 + t235)), .bool t238] (0, 0) _ rfl (xPt0 BK222.out) Try.underlying91 rfl (by kernel_rfl)) rfl ?_
     exact ⟨by first | rfl | (simp [errW_none, errW_some] <;> rfl) | (simp only [← hji5, ← hji8, ← hji12]; first | rfl | (simp [errW_none, errW_some] <;> rfl)) | (simp [*, errW_none, errW_some] <;> rfl), xJ129_12_2 NB0_222.out NB0_241.out HI0.out, xB3 (IsS129.ge HI0.out) GE222.out GE241.out HB.out, xH2 GW222.out GW241.out HK.out⟩
    rw [if_pos c77] at H
    have c77b0 : (t245 == 3) = true := beq_iff_eq.mpr c77
    have c77b1 : (t245 != 3) = false := bne_eq_false_iff_eq.mpr c77
    clear c77
    replace H := Option.bind_eq_some_iff.mp H
    obtain ⟨⟨t266, t267, t268, t269⟩, A780, H⟩ := H
    (try dsimp only at H)
    have A78 := xA A780
    clear A780
    simp only [Option.some.injEq, Prod.mk.injEq] at H
    obtain ⟨rfl, rfl, rfl, rfl, rfl, rfl, rfl, rfl⟩ := H
    go_wp2_with (first | (refine xq rfl ?_; first | (refine xG (some 46) Try.func229 #[.pointer (some ⟨g, 0, none⟩), .int .i64 18] ?_; (with_reducible refine (spec_l1Cur_pick.calls g s0_0 t243 t244 18 t245 t246 t247 w0 _ ?side1 ?side2 A40.out).mono ?_); (case side1 => exact xJ129_12_2 NB0_222.out NB0_241.out HI0.out); (case side2 => exact xB3 (IsS129.ge HI0.out) GE222.out GE241.out HB.out); rintro e w79 ⟨rfl, hi, hb, hk⟩; refine ⟨_, rfl, ?_⟩; replace BK222 := xkk hk BK222 NB222_0; replace BK241 := xkk hk BK241 NB241_0; replace HK := xA (KeepBut.trans (xH2 GW222.out GW241.out HK.out) hk (.inl rfl)); replace HB := xA (hb); replace HI0 := xA (hi); (try clear hb hk hi)) | (refine xG (some 68) Try.func265 #[.pointer (some ⟨g, 0, none⟩)] ?_; (with_reducible refine (spec_l1Cur_word.calls g s0_0 t246 t247 t266 t267 t268 t269 w0 _ ?side1 ?side2 A78.out).mono ?_); (case side1 => exact xJ129_12_2 NB0_222.out NB0_241.out HI0.out); (case side2 => exact xB3 (IsS129.ge HI0.out) GE222.out GE241.out HB.out); rintro e w80 ⟨rfl, hi, hb, hk⟩; refine ⟨_, rfl, ?_⟩; replace BK222 := xkk hk BK222 NB222_0; replace BK241 := xkk hk BK241 NB241_0; replace HK := xA (KeepBut.trans (xH2 GW222.out GW241.out HK.out) hk (.inl rfl)); replace HB := xA (hb); replace HI0 := xA (hi); (try clear hb hk hi); have hnb81 := NB241_222.out; have hnc81 := NB222_241.out; have hnb82 := NB241_0.out; have hnc82 := NB0_241.out; replace hz241 := blk_cell BK241.out; replace hy241 := blk_frozen BK241.out; have hnb84 := NB222_0.out; have hnc84 := NB0_222.out; replace hz222 := blk_cell BK222.out; replace hy222 := blk_frozen BK222.out)))
    refine bodyPost_ret (results_cell_row rfl _ _ gb222 91 #[.int .i64 (wrap64 ((wrap64 (t226 - (ji8))) - 1)), .int .i64 x242001_16, .int .i64 t223, .int .i64 t232, .int .i64 t266, .bool t267] (0, 0) _ rfl (xPt1 NB222_241.out BK222.out) Try.underlying91 rfl (by kernel_rfl)) rfl ?_
    exact ⟨by first | rfl | (simp [errW_none, errW_some] <;> rfl) | (simp only [← hji5, ← hji8, ← hji12]; first | rfl | (simp [errW_none, errW_some] <;> rfl)) | (simp [*, errW_none, errW_some] <;> rfl), xJ129_12_2 NB0_222.out NB0_241.out HI0.out, xB3 (IsS129.ge HI0.out) GE222.out GE241.out HB.out, xH2 GW222.out GW241.out HK.out⟩
end Go.Proofs.Ytjplcongellcmaa.PFnPairsRun
