/- What each Go function that the statement FnPairsRun reaches answers, proved call by call. No condition beyond those that the theorems print. (Written by wip/tools/xprint.py of this repo, over the kit's print.) -/
import Derived.Test.YtjplcongellcmaaPFnPairsRunx0
import Derived.Test.YtjplcongellcmaaPFnPairsRunx2
import Derived.Test.YtjplcongellcmaaPFnPairsRunx3
namespace Go.Proofs.Ytjplcongellcmaa.PFnPairsRun
open Go.RowKit Go.Proofs.YtjplcongellcmaaW.PrintWords Go.Proofs.YtjplcongellcmaaW.PrintLast Go.Proofs.YtjplcongellcmaaW.PrintMore
attribute [local go_sem] max2_int min2_int max_two min_two max_three min_three max_four min_four   -- for this text's walks alone
set_option linter.unusedVariables false
set_option linter.unusedSimpArgs false
def x11a0 : Array Bool := #[Zz,Zz,Zz,Zz,Zz,Zz,Zz,Zz,Zz,Zz,Zz,Zz,Zz,Zz,Zz,Zz,Zz,Zz,Zz,Zz,Zz,Zz,Zz]
def x11a1 : Array Bool := #[Yy,Zz,Zz,Zz,Zz,Zz,Zz,Zz,Zz,Zz,Zz,Zz,Zz,Zz,Zz,Zz,Zz,Zz,Zz,Zz,Zz,Zz,Zz]
def x11a2 : Array Bool := #[Yy,Yy,Zz,Zz,Zz,Zz,Zz,Zz,Zz,Zz,Zz,Zz,Zz,Zz,Zz,Zz,Zz,Zz,Zz,Zz,Zz,Zz,Zz]
def x11a3 : Array Bool := #[Yy,Yy,Yy,Zz,Zz,Zz,Zz,Zz,Zz,Zz,Zz,Zz,Zz,Zz,Zz,Zz,Zz,Zz,Zz,Zz,Zz,Zz,Zz]
def x11a4 : Array Bool := #[Yy,Yy,Yy,Yy,Zz,Zz,Zz,Zz,Zz,Zz,Zz,Zz,Zz,Zz,Zz,Zz,Zz,Zz,Zz,Zz,Zz,Zz,Zz]
def x11a5 : Array Bool := #[Yy,Yy,Yy,Yy,Zz,Yy,Zz,Zz,Zz,Zz,Zz,Zz,Zz,Zz,Zz,Zz,Zz,Zz,Zz,Zz,Zz,Zz,Zz]
def x11a6 : Array Bool := #[Yy,Yy,Yy,Yy,Zz,Yy,Yy,Zz,Zz,Zz,Zz,Zz,Zz,Zz,Zz,Zz,Zz,Zz,Zz,Zz,Zz,Zz,Zz]
def x11a7 : Array Bool := #[Yy,Yy,Yy,Yy,Zz,Yy,Yy,Zz,Zz,Yy,Zz,Zz,Zz,Zz,Zz,Zz,Zz,Zz,Zz,Zz,Zz,Zz,Zz]
def x11a8 : Array Bool := #[Yy,Yy,Yy,Yy,Zz,Yy,Yy,Zz,Zz,Yy,Yy,Zz,Zz,Zz,Zz,Zz,Zz,Zz,Zz,Zz,Zz,Zz,Zz]
def x11a9 : Array Bool := #[Yy,Yy,Yy,Yy,Zz,Yy,Yy,Zz,Zz,Yy,Yy,Zz,Yy,Zz,Zz,Zz,Zz,Zz,Zz,Zz,Zz,Zz,Zz]
def x11a10 : Array Bool := #[Yy,Yy,Yy,Yy,Zz,Yy,Yy,Zz,Zz,Yy,Yy,Zz,Yy,Yy,Zz,Zz,Zz,Zz,Zz,Zz,Zz,Zz,Zz]
def x11a11 : Array Bool := #[Yy,Yy,Yy,Yy,Zz,Yy,Yy,Zz,Zz,Yy,Yy,Zz,Yy,Yy,Yy,Zz,Zz,Zz,Zz,Zz,Zz,Zz,Zz]
def x11a12 : Array Bool := #[Yy,Yy,Yy,Yy,Zz,Yy,Yy,Zz,Zz,Yy,Yy,Zz,Yy,Yy,Yy,Zz,Zz,Yy,Zz,Zz,Zz,Zz,Zz]
def x11a13 : Array Bool := #[Yy,Yy,Yy,Yy,Yy,Yy,Yy,Yy,Yy,Yy,Yy,Yy,Yy,Yy,Yy,Yy,Yy,Yy,Yy,Yy,Yy,Yy,Zz]
def x11a14 : Array Bool := #[Yy,Yy,Yy,Yy,Yy,Yy,Yy,Yy,Yy,Yy,Yy,Yy,Yy,Yy,Yy,Yy,Yy,Yy,Yy,Yy,Yy,Zz,Zz]
def x11a15 : Array Bool := #[Yy,Yy,Yy,Yy,Yy,Yy,Yy,Yy,Yy,Yy,Yy,Yy,Yy,Yy,Yy,Yy,Yy,Yy,Zz,Zz,Zz,Yy,Zz]
def x11a16 : Array Bool := #[Yy,Yy,Yy,Yy,Yy,Yy,Yy,Yy,Yy,Yy,Yy,Yy,Yy,Yy,Yy,Yy,Yy,Yy,Zz,Zz,Zz,Zz,Zz]
def x11a17 : Array Bool := #[Yy,Yy,Yy,Yy,Yy,Yy,Yy,Yy,Yy,Yy,Yy,Yy,Yy,Yy,Yy,Zz,Zz,Yy,Zz,Zz,Zz,Yy,Zz]
def x11a18 : Array Bool := #[Yy,Yy,Yy,Yy,Yy,Yy,Yy,Yy,Yy,Yy,Yy,Yy,Yy,Yy,Yy,Zz,Zz,Yy,Zz,Zz,Zz,Zz,Zz]
def x11a19 : Array Bool := #[Yy,Yy,Yy,Yy,Yy,Yy,Yy,Yy,Yy,Yy,Yy,Zz,Yy,Yy,Yy,Zz,Zz,Yy,Zz,Zz,Zz,Yy,Zz]
def x11a20 : Array Bool := #[Yy,Yy,Yy,Yy,Yy,Yy,Yy,Yy,Yy,Yy,Yy,Zz,Yy,Yy,Yy,Zz,Zz,Yy,Zz,Zz,Zz,Zz,Zz]
def x11a21 : Array Bool := #[Yy,Yy,Yy,Yy,Zz,Yy,Yy,Zz,Zz,Yy,Yy,Zz,Yy,Yy,Yy,Zz,Zz,Yy,Zz,Zz,Zz,Yy,Zz]
def x11a22 : Array Bool := #[Yy,Yy,Yy,Yy,Yy,Yy,Yy,Zz,Zz,Yy,Yy,Zz,Yy,Yy,Yy,Zz,Zz,Yy,Zz,Zz,Zz,Zz,Zz]
def x11a23 : Array Bool := #[Yy,Yy,Yy,Yy,Yy,Yy,Yy,Yy,Zz,Yy,Yy,Zz,Yy,Yy,Yy,Zz,Zz,Yy,Zz,Zz,Zz,Zz,Zz]
def x11a24 : Array Bool := #[Yy,Yy,Yy,Yy,Yy,Yy,Yy,Zz,Zz,Yy,Yy,Zz,Yy,Yy,Yy,Zz,Zz,Yy,Zz,Zz,Zz,Yy,Zz]
def x11a25 : Array Bool := #[Yy,Yy,Yy,Yy,Yy,Yy,Yy,Yy,Zz,Yy,Yy,Zz,Yy,Yy,Yy,Zz,Zz,Yy,Zz,Zz,Zz,Yy,Zz]
def x11a26 : Array Bool := #[Yy,Yy,Yy,Yy,Yy,Yy,Yy,Yy,Yy,Yy,Yy,Yy,Yy,Yy,Yy,Yy,Zz,Yy,Zz,Zz,Zz,Zz,Zz]
def x11a27 : Array Bool := #[Yy,Yy,Yy,Yy,Yy,Yy,Yy,Yy,Yy,Yy,Yy,Yy,Yy,Yy,Yy,Yy,Zz,Yy,Zz,Zz,Zz,Yy,Zz]
def x11a28 : Array Bool := #[Yy,Yy,Yy,Yy,Yy,Yy,Yy,Yy,Yy,Yy,Yy,Yy,Yy,Yy,Yy,Yy,Yy,Yy,Yy,Zz,Zz,Zz,Zz]
def x11a29 : Array Bool := #[Yy,Yy,Yy,Yy,Yy,Yy,Yy,Yy,Yy,Yy,Yy,Yy,Yy,Yy,Yy,Yy,Yy,Yy,Yy,Yy,Zz,Zz,Zz]
def x11a30 : Array Bool := #[Yy,Yy,Yy,Yy,Yy,Yy,Yy,Yy,Yy,Yy,Yy,Yy,Yy,Yy,Yy,Yy,Yy,Yy,Yy,Zz,Zz,Yy,Zz]
def x11a31 : Array Bool := #[Yy,Yy,Yy,Yy,Yy,Yy,Yy,Yy,Yy,Yy,Yy,Yy,Yy,Yy,Yy,Yy,Yy,Yy,Yy,Yy,Zz,Yy,Zz]
def x11a32 : Array Bool := #[Yy,Yy,Yy,Yy,Yy,Yy,Yy,Yy,Yy,Yy,Yy,Yy,Yy,Yy,Yy,Yy,Yy,Yy,Yy,Yy,Yy,Yy,Yy]

/-! ### spec_l1Cur_first: function 281 -/
def spec_l1Cur_first.f (s0_0 : List Int) (s0_1 : Int) (s0_2 : Int) (a1 : Int) : Option (Int × Int × Int × Int × Bool × Int × Int) := (spec_l1Cur_pick.f s0_0 s0_1 s0_2 5).bind fun bt421 => (if 0 ≤ bt421.1 then ((spec_l1Cur_pick.f s0_0 bt421.2.1 bt421.2.2 (wrap64 ((shl .i64 2 bt421.1) + 3))).bind fun bt424 => ((spec_l1Cur_pick.f s0_0 bt424.2.1 bt424.2.2 3).bind fun bt427 => ((spec_l1Cur_pick.f s0_0 bt427.2.1 bt427.2.2 (wrap64 (a1 - 1))).bind fun bt430 => ((spec_l1Cur_one.f s0_0 bt430.2.1 bt430.2.2 2).bind fun bt433 => ((spec_l1Cur_pick.f s0_0 bt433.2.1 bt433.2.2 18).bind fun bt437 => (if bt437.1 = 0 then ((spec_l1Cur_among.f s0_0 bt437.2.1 bt437.2.2 (([1024, (-1024), 1025, (-4611686018427387904), 0] : List Int))).bind fun bt443 => (some (bt443.1, bt421.1, bt427.1, wrap64 (2 + bt430.1), bt433.1, bt443.2.1, bt443.2.2))) else (if bt437.1 = 1 then ((spec_l1Cur_among.f s0_0 bt437.2.1 bt437.2.2 (([10, 11, (-1), 64] : List Int))).bind fun bt449 => (some (wrap64 ((wrap64 (bt424.1 - (shl .i64 1 bt421.1))) - 1), bt449.1, bt427.1, wrap64 (2 + bt430.1), bt433.1, bt449.2.1, bt449.2.2))) else (if bt437.1 = 2 then ((spec_l1Cur_among.f s0_0 bt437.2.1 bt437.2.2 (([3, (-1)] : List Int))).bind fun bt455 => (some (wrap64 ((wrap64 (bt424.1 - (shl .i64 1 bt421.1))) - 1), bt421.1, bt455.1, wrap64 (2 + bt430.1), bt433.1, bt455.2.1, bt455.2.2))) else (if bt437.1 = 3 then ((spec_l1Cur_word.f s0_0 bt437.2.1 bt437.2.2).bind fun bt458 => (some (wrap64 ((wrap64 (bt424.1 - (shl .i64 1 bt421.1))) - 1), bt421.1, bt427.1, bt458.1, bt458.2.1, bt458.2.2.1, bt458.2.2.2))) else (some (wrap64 ((wrap64 (bt424.1 - (shl .i64 1 bt421.1))) - 1), bt421.1, bt427.1, wrap64 (2 + bt430.1), bt433.1, bt437.2.1, bt437.2.2))))))))))) else (none))
def spec_l1Cur_first.T2 : Bool × List (List Nat × List Nat) := (true, [([], []), ([], []), ([1], [1]), ([2], [2]), ([0, 3], [0, 3]), ([], []), ([5], [5]), ([4, 6], [4, 6]), ([7], [7]), ([], []), ([], []), ([10, 4], [10]), ([], []), ([], []), ([13], [13]), ([12, 14, 11], [12, 14]), ([15], [15]), ([], []), ([17, 15], [17]), ([16, 18], [16, 18]), ([8, 9, 11, 19], [8, 9, 11, 19]), ([], []), ([21, 20, 18, 0, 1, 2, 3, 4, 5, 6, 7, 8, 9, 10, 11, 12, 13, 14, 15, 16, 17, 18, 19, 20, 21], [20, 21])])
def spec_l1Cur_first.B2 : List Nat := [0, 0, 2, 6, 15, 0, 32, 127, 255, 0, 0, 1055, 0, 0, 8192, 31775, 64543, 0, 195615, 523295, 1048575, 0, 4194303]
theorem spec_l1Cur_first.tab2 : rtab .any (opsOf Try.f281 2) = spec_l1Cur_first.T2 := by kernel_rfl
theorem spec_l1Cur_first.bits2 : waitsOk spec_l1Cur_first.T2.2 spec_l1Cur_first.B2 = true := by kernel_rfl
set_option maxHeartbeats 200000000 in
set_option maxRecDepth 100000 in
theorem spec_l1Cur_first.calls (g : Nat) (s0_0 : List Int) (s0_1 : Int) (s0_2 : Int) (a1 : Int) (r1 : Int) (r2 : Int) (r3 : Int) (r4 : Int) (r5 : Bool) (r6 : Int) (r7 : Int) (w0 w : World) (hI : IsS129 w0 w g s0_0 s0_1 s0_2) (hB : Below w0.heap.size w0 w) (h : spec_l1Cur_first.f s0_0 s0_1 s0_2 a1 = some (r1, r2, r3, r4, r5, r6, r7)) :
  Calls Try.prog 281 #[.pointer (some ⟨g, 0, none⟩), .int .i64 a1] w fun e w' => e = .returned (.agg #[.int .i64 r1, .int .i64 r2, .int .i64 r3, .int .i64 r4, .bool r5]) ∧ IsS129 w0 w' g s0_0 r6 r7 ∧ Below w0.heap.size w0 w' ∧ KeepBut w w' g none := by
 have hu62 := Try.underlying62
 have hu46 := Try.underlying46
 have HI0 := xA hI
 have HK := xA (KeepBut.refl w g none)
 have HL := xA hB.size
 clear hI
 have HW0 := xA hB.size
 have HB := xA hB
 clear hB
 have H : ((spec_l1Cur_pick.f s0_0 s0_1 s0_2 5).bind fun bt421 => (if 0 ≤ bt421.1 then ((spec_l1Cur_pick.f s0_0 bt421.2.1 bt421.2.2 (wrap64 ((shl .i64 2 bt421.1) + 3))).bind fun bt424 => ((spec_l1Cur_pick.f s0_0 bt424.2.1 bt424.2.2 3).bind fun bt427 => ((spec_l1Cur_pick.f s0_0 bt427.2.1 bt427.2.2 (wrap64 (a1 - 1))).bind fun bt430 => ((spec_l1Cur_one.f s0_0 bt430.2.1 bt430.2.2 2).bind fun bt433 => ((spec_l1Cur_pick.f s0_0 bt433.2.1 bt433.2.2 18).bind fun bt437 => (if bt437.1 = 0 then ((spec_l1Cur_among.f s0_0 bt437.2.1 bt437.2.2 (([1024, (-1024), 1025, (-4611686018427387904), 0] : List Int))).bind fun bt443 => (some (bt443.1, bt421.1, bt427.1, wrap64 (2 + bt430.1), bt433.1, bt443.2.1, bt443.2.2))) else (if bt437.1 = 1 then ((spec_l1Cur_among.f s0_0 bt437.2.1 bt437.2.2 (([10, 11, (-1), 64] : List Int))).bind fun bt449 => (some (wrap64 ((wrap64 (bt424.1 - (shl .i64 1 bt421.1))) - 1), bt449.1, bt427.1, wrap64 (2 + bt430.1), bt433.1, bt449.2.1, bt449.2.2))) else (if bt437.1 = 2 then ((spec_l1Cur_among.f s0_0 bt437.2.1 bt437.2.2 (([3, (-1)] : List Int))).bind fun bt455 => (some (wrap64 ((wrap64 (bt424.1 - (shl .i64 1 bt421.1))) - 1), bt421.1, bt455.1, wrap64 (2 + bt430.1), bt433.1, bt455.2.1, bt455.2.2))) else (if bt437.1 = 3 then ((spec_l1Cur_word.f s0_0 bt437.2.1 bt437.2.2).bind fun bt458 => (some (wrap64 ((wrap64 (bt424.1 - (shl .i64 1 bt421.1))) - 1), bt421.1, bt427.1, bt458.1, bt458.2.1, bt458.2.2.1, bt458.2.2.2))) else (some (wrap64 ((wrap64 (bt424.1 - (shl .i64 1 bt421.1))) - 1), bt421.1, bt427.1, wrap64 (2 + bt430.1), bt433.1, bt437.2.1, bt437.2.2))))))))))) else (none))) = some (r1, r2, r3, r4, r5, r6, r7) := h
 clear h
 replace H := Option.bind_eq_some_iff.mp H
 obtain ⟨⟨t421, t422, t423⟩, A30, H⟩ := H
 (try dsimp only at H)
 have A3 := xA A30
 clear A30
 by_cases c4 : 0 ≤ t421
 rotate_left
 ·rw [if_neg c4] at H
  exact absurd H (by simp)

 rw [if_pos c4] at H
 have c4b0 := eq_true c4
 have c4b1 : decide (0 ≤ t421) = true := decide_eq_true c4
 clear c4
 obtain ⟨ji5, hji5⟩ : ∃ j_ : Int, (shl .i64 2 t421) = j_ := ⟨_, rfl⟩
 (first | rw [hji5] at H | simp only [hji5] at H)
 (try rw [hji5] at A3)
 obtain ⟨hji5_, hji5z, hji5y, hji5x⟩ := xSh hji5
 replace H := Option.bind_eq_some_iff.mp H
 obtain ⟨⟨t424, t425, t426⟩, A60, H⟩ := H
 (try dsimp only at H)
 have A6 := xA A60
 clear A60
 have c7b0 := eq_true (of_decide_eq_true (by first | (with_reducible assumption) | assumption) : 0 ≤ t421)
 obtain ⟨ji8, hji8⟩ : ∃ j_ : Int, (shl .i64 1 t421) = j_ := ⟨_, rfl⟩
 (first | rw [hji8] at H | simp only [hji8] at H)
 (try rw [hji8] at A3)
 (try rw [hji8] at A6)
 have hji8_ : (IntKind.i64.wrap (1 * 2 ^ min t421.toNat 64)) = ji8 := hji8
 have hji8z : t421 ≤ 64 → (IntKind.i64.wrap (1 * 2 ^ t421.toNat)) = ji8 := shl_small hji8
 have hji8u : (IntKind.i64.wrap (2 ^ min t421.toNat 64)) = ji8 := by have h_ := hji8_; rw [Int.one_mul] at h_; exact h_
 have hji8v : t421 ≤ 64 → (IntKind.i64.wrap (2 ^ t421.toNat)) = ji8 := fun hle_ => by have h_ := hji8z hle_; rw [Int.one_mul] at h_; exact h_
 have hji8y : (wrap64 (1 * 2 ^ min t421.toNat 64)) = ji8 := (i64_w _).symm.trans hji8_
 have hji8x : t421 ≤ 64 → (wrap64 (1 * 2 ^ t421.toNat)) = ji8 := fun h_ => (i64_w _).symm.trans (hji8z h_)
 replace H := Option.bind_eq_some_iff.mp H
 obtain ⟨⟨t427, t428, t429⟩, A90, H⟩ := H
 (try dsimp only at H)
 have A9 := xA A90
 clear A90
 replace H := Option.bind_eq_some_iff.mp H
 obtain ⟨⟨t430, t431, t432⟩, A100, H⟩ := H
 (try dsimp only at H)
 have A10 := xA A100
 clear A100
 replace H := Option.bind_eq_some_iff.mp H
 obtain ⟨⟨t433, t434, t435⟩, A110, H⟩ := H
 (try dsimp only at H)
 have A11 := xA A110
 clear A110
 replace H := Option.bind_eq_some_iff.mp H
 obtain ⟨⟨t437, t438, t439⟩, A120, H⟩ := H
 (try dsimp only at H)
 have A12 := xA A120
 clear A120
 by_cases c13 : t437 = 0
 rw [if_pos c13] at H
 have c13b0 : (t437 == 0) = true := beq_iff_eq.mpr c13
 have c13b1 : (t437 != 0) = false := bne_eq_false_iff_eq.mpr c13
 clear c13
 obtain ⟨y440, hy440⟩ : ∃ y_ : List Int, y_ = (([1024, (-1024), 1025, (-4611686018427387904), 0] : List Int)) := ⟨_, rfl⟩
 replace H : ((spec_l1Cur_among.f s0_0 t438 t439 y440).bind fun bt443 => (some (bt443.1, t421, t427, wrap64 (2 + t430), t433, bt443.2.1, bt443.2.2))) = some (r1, r2, r3, r4, r5, r6, r7) := by first | (rw [hy440]; with_reducible exact H) | (have H2_ := (Option.bind_some _ _).symm.trans H; rw [hy440]; with_reducible exact H2_) | (have H2_ := (Option.bind_some _ _).symm.trans H; with_reducible exact H2_) | with_reducible exact H | (rw [hy440]; exact H) | exact H
 have Ny440 := xA hy440
 clear hy440
 replace H := Option.bind_eq_some_iff.mp H
 obtain ⟨⟨t443, t444, t445⟩, A140, H⟩ := H
 (try dsimp only at H)
 have A14 := xA A140
 clear A140
 simp only [Option.some.injEq, Prod.mk.injEq] at H
 obtain ⟨rfl, rfl, rfl, rfl, rfl, rfl, rfl⟩ := H
 rotate_left
 rw [if_neg c13] at H
 have c13b0 : (t437 == 0) = false := beq_eq_false_iff_ne.mpr c13
 have c13b1 : (t437 != 0) = true := bne_iff_ne.mpr c13
 by_cases c39 : t437 = 1
 rw [if_pos c39] at H
 have c39b0 : (t437 == 1) = true := beq_iff_eq.mpr c39
 have c39b1 : (t437 != 1) = false := bne_eq_false_iff_eq.mpr c39
 clear c39
 obtain ⟨y446, hy446⟩ : ∃ y_ : List Int, y_ = (([10, 11, (-1), 64] : List Int)) := ⟨_, rfl⟩
 replace H : ((spec_l1Cur_among.f s0_0 t438 t439 y446).bind fun bt449 => (some (wrap64 ((wrap64 (t424 - (ji8))) - 1), bt449.1, t427, wrap64 (2 + t430), t433, bt449.2.1, bt449.2.2))) = some (r1, r2, r3, r4, r5, r6, r7) := by first | (rw [hy446]; with_reducible exact H) | (have H2_ := (Option.bind_some _ _).symm.trans H; rw [hy446]; with_reducible exact H2_) | (have H2_ := (Option.bind_some _ _).symm.trans H; with_reducible exact H2_) | with_reducible exact H | (rw [hy446]; exact H) | exact H
 have Ny446 := xA hy446
 clear hy446
 replace H := Option.bind_eq_some_iff.mp H
 obtain ⟨⟨t449, t450, t451⟩, A400, H⟩ := H
 (try dsimp only at H)
 have A40 := xA A400
 clear A400
 simp only [Option.some.injEq, Prod.mk.injEq] at H
 obtain ⟨rfl, rfl, rfl, rfl, rfl, rfl, rfl⟩ := H
 rotate_left
 rw [if_neg c39] at H
 have c39b0 : (t437 == 1) = false := beq_eq_false_iff_ne.mpr c39
 have c39b1 : (t437 != 1) = true := bne_iff_ne.mpr c39
 by_cases c65 : t437 = 2
 rw [if_pos c65] at H
 have c65b0 : (t437 == 2) = true := beq_iff_eq.mpr c65
 have c65b1 : (t437 != 2) = false := bne_eq_false_iff_eq.mpr c65
 clear c65
 obtain ⟨y452, hy452⟩ : ∃ y_ : List Int, y_ = (([3, (-1)] : List Int)) := ⟨_, rfl⟩
 replace H : ((spec_l1Cur_among.f s0_0 t438 t439 y452).bind fun bt455 => (some (wrap64 ((wrap64 (t424 - (ji8))) - 1), t421, bt455.1, wrap64 (2 + t430), t433, bt455.2.1, bt455.2.2))) = some (r1, r2, r3, r4, r5, r6, r7) := by first | (rw [hy452]; with_reducible exact H) | (have H2_ := (Option.bind_some _ _).symm.trans H; rw [hy452]; with_reducible exact H2_) | (have H2_ := (Option.bind_some _ _).symm.trans H; with_reducible exact H2_) | with_reducible exact H | (rw [hy452]; exact H) | exact H
 have Ny452 := xA hy452
 clear hy452
 replace H := Option.bind_eq_some_iff.mp H
 obtain ⟨⟨t455, t456, t457⟩, A660, H⟩ := H
 (try dsimp only at H)
 have A66 := xA A660
 clear A660
 simp only [Option.some.injEq, Prod.mk.injEq] at H
 obtain ⟨rfl, rfl, rfl, rfl, rfl, rfl, rfl⟩ := H
 rotate_left
 rw [if_neg c65] at H
 have c65b0 : (t437 == 2) = false := beq_eq_false_iff_ne.mpr c65
 have c65b1 : (t437 != 2) = true := bne_iff_ne.mpr c65
 by_cases c91 : t437 = 3
 rotate_left
 rw [if_neg c91] at H
 have c91b0 : (t437 == 3) = false := beq_eq_false_iff_ne.mpr c91
 have c91b1 : (t437 != 3) = true := bne_iff_ne.mpr c91
 simp only [Option.some.injEq, Prod.mk.injEq] at H
 obtain ⟨rfl, rfl, rfl, rfl, rfl, rfl, rfl⟩ := H
 rotate_left 4
 rw [if_pos c91] at H
 have c91b0 : (t437 == 3) = true := beq_iff_eq.mpr c91
 have c91b1 : (t437 != 3) = false := bne_eq_false_iff_eq.mpr c91
 clear c91
 replace H := Option.bind_eq_some_iff.mp H
 obtain ⟨⟨t458, t459, t460, t461⟩, A920, H⟩ := H
 (try dsimp only at H)
 have A92 := xA A920
 clear A920
 simp only [Option.some.injEq, Prod.mk.injEq] at H
 obtain ⟨rfl, rfl, rfl, rfl, rfl, rfl, rfl⟩ := H
 all_goals
  go_enter Try.func281, Try.ntmps281
  try go_wp2_with (first | (refine xg 4 rfl ?_; refine xV 4 #[.int .i64 0, .int .i64 0, .int .i64 0, .int .i64 0, .bool false] 62 ?_; intro gb420 hg w15 hbox hb; replace HB := xA (below_step (xB1 (IsS129.ge HI0.out) HB.out) hb); have BK420 := xA (hbox); have GW420 := xA ((by rw [hg]; exact (keep_size (w := w) (g := g) (row := none) (xH0 HK.out)) : w.heap.size ≤ gb420)); have GE420 := xA ((Nat.le_trans HW0.out (by rw [hg]; exact (keep_size (w := w) (g := g) (row := none) (xH0 HK.out)) : w.heap.size ≤ gb420) : w0.heap.size ≤ gb420)); replace HK := xA (KeepBut.trans (xH0 HK.out) (KeepBut.of_below hb g none) (.inl rfl)); have NB0_420 := xA ((by rw [hg]; exact Nat.ne_of_lt (IsS129.lt (show IsS129 w0 _ g s0_0 s0_1 s0_2 from xJ129_12_0 HI0.out)) : g ≠ gb420)); have NB420_0 := xA ((by rw [hg]; exact Nat.ne_of_gt (IsS129.lt (show IsS129 w0 _ g s0_0 s0_1 s0_2 from xJ129_12_0 HI0.out)) : gb420 ≠ g)); replace HI0 := xA (IsS129.below (xJ129_12_0 HI0.out) hb); clear hb hbox hg) | (refine xG (some 8) Try.func229 #[.pointer (some ⟨g, 0, none⟩), .int .i64 5] ?_; (with_reducible refine (spec_l1Cur_pick.calls g s0_0 s0_1 s0_2 5 t421 t422 t423 w0 _ ?side1 ?side2 A3.out).mono ?_); (case side1 => exact xJ129_12_1 NB0_420.out HI0.out); (case side2 => exact xB2 (IsS129.ge HI0.out) GE420.out HB.out); rintro e w16 ⟨rfl, hi, hb, hk⟩; refine ⟨_, rfl, ?_⟩; replace BK420 := xkk hk BK420 NB420_0; replace HK := xA (KeepBut.trans (xH1 GW420.out HK.out) hk (.inl rfl)); replace HB := xA (hb); replace HI0 := xA (hi); (try clear hb hk hi)))
  replace BK420 := xA (blk_drew BK420.out)
  replace HI0 := xA (IsS129.drew HI0.out)
  replace HK := xA (keep_drew HK.out)
  replace HB := xA (below_drew1 HB.out)
  refine start_ (n := 23) (S := fun w' => True) (ds := []) x11a0 (by kernel_rfl) rfl rfl trivial (fun hHeld => ?_); refine with_tabW spec_l1Cur_first.tab2 spec_l1Cur_first.bits2 (fun HT_ HW_ => ?_)
  generalize w16.drew = w17 at BK420 HI0 HK HB hHeld ⊢
  refine xP 0 9 x11a1 ?_
  refine xP 1 10 x11a2 ?_
  refine xP 2 11 x11a3 ?_
  refine xP 3 12 x11a4 ?_
  refine xP 5 14 x11a5 ?_
  refine xP 6 15 x11a6 ?_
  refine xP 9 18 x11a7 ?_
  refine xP 10 19 x11a8 ?_
  refine xP 12 21 x11a9 ?_
  refine xP 13 22 x11a10 ?_
  refine xP 14 23 x11a11 ?_
  refine xP 17 26 x11a12 ?_
  refine join_ (σ := Nat) 1 x11a13 (fun s_ => [(13, .int .i64 t424), (20, .int .i64 t427), (24, .int .i64 t430), (27, .bool t433), (6, .pointer (some ⟨s_, 0, none⟩)), (16, .int .i64 (wrap64 (t424 - (ji8)))), (17, .int .i64 (wrap64 ((wrap64 (t424 - (ji8))) - 1))), (25, .int .i64 (wrap64 (2 + t430))), (28, .agg #[.int .i64 (wrap64 (2 + t430)), .bool t433]), (29, .agg #[.int .i64 (wrap64 ((wrap64 (t424 - (ji8))) - 1)), .int .i64 t421, .int .i64 t427, .int .i64 (wrap64 (2 + t430)), .bool t433])]) (fun s_ w' => (w'.heap[gb420]? = some (.cells #[.int .i64 0, .int .i64 0, .int .i64 0, .int .i64 0, .bool false] 62 (0, 0))) ∧ (w'.heap[s_]? = some (.cells #[.int .i64 0, .int .i64 0, .int .i64 0, .int .i64 0, .bool false] 62 (0, 0))) ∧ (w.heap.size ≤ s_) ∧ (w0.heap.size ≤ s_) ∧ (g ≠ s_) ∧ (s_ ≠ g) ∧ (gb420 ≠ s_) ∧ (s_ ≠ gb420) ∧ (IsS129 w0 w' g s0_0 t434 t435) ∧ (KeepBut w w' g none) ∧ (Below w0.heap.size w0 w')) ?_ ?_
  rotate_left
  ·intro hJ4_11_15_18_21
   refine join_ (σ := Unit) 2 x11a14 (fun s_ => [(13, .int .i64 t424), (20, .int .i64 t427), (24, .int .i64 t430), (27, .bool t433), (16, .int .i64 (wrap64 (t424 - (ji8)))), (17, .int .i64 (wrap64 ((wrap64 (t424 - (ji8))) - 1))), (25, .int .i64 (wrap64 (2 + t430))), (28, .agg #[.int .i64 (wrap64 (2 + t430)), .bool t433]), (29, .agg #[.int .i64 (wrap64 ((wrap64 (t424 - (ji8))) - 1)), .int .i64 t421, .int .i64 t427, .int .i64 (wrap64 (2 + t430)), .bool t433])]) (fun s_ w' => (w'.heap[gb420]? = some (.cells #[.int .i64 0, .int .i64 0, .int .i64 0, .int .i64 0, .bool false] 62 (0, 0))) ∧ (IsS129 w0 w' g s0_0 t434 t435) ∧ (KeepBut w w' g none) ∧ (Below w0.heap.size w0 w')) ?_ ?_
   rotate_left
   ·intro hJ4_11_15_18
    refine join_ (σ := Nat) 4 x11a15 (fun s_ => [(13, .int .i64 t424), (20, .int .i64 t427), (24, .int .i64 t430), (6, .pointer (some ⟨s_, 0, none⟩)), (16, .int .i64 (wrap64 (t424 - (ji8)))), (17, .int .i64 (wrap64 ((wrap64 (t424 - (ji8))) - 1))), (25, .int .i64 (wrap64 (2 + t430)))]) (fun s_ w' => (w'.heap[gb420]? = some (.cells #[.int .i64 0, .int .i64 0, .int .i64 0, .int .i64 0, .bool false] 62 (0, 0))) ∧ (w'.heap[s_]? = some (.cells #[.int .i64 0, .int .i64 0, .int .i64 0, .int .i64 0, .bool false] 62 (0, 0))) ∧ (w.heap.size ≤ s_) ∧ (w0.heap.size ≤ s_) ∧ (g ≠ s_) ∧ (s_ ≠ g) ∧ (gb420 ≠ s_) ∧ (s_ ≠ gb420) ∧ (IsS129 w0 w' g s0_0 t431 t432) ∧ (KeepBut w w' g none) ∧ (Below w0.heap.size w0 w')) ?_ ?_
    rotate_left
    ·intro hJ4_11_15_21
     refine join_ (σ := Unit) 5 x11a16 (fun s_ => [(13, .int .i64 t424), (20, .int .i64 t427), (24, .int .i64 t430), (16, .int .i64 (wrap64 (t424 - (ji8)))), (17, .int .i64 (wrap64 ((wrap64 (t424 - (ji8))) - 1))), (25, .int .i64 (wrap64 (2 + t430)))]) (fun s_ w' => (w'.heap[gb420]? = some (.cells #[.int .i64 0, .int .i64 0, .int .i64 0, .int .i64 0, .bool false] 62 (0, 0))) ∧ (IsS129 w0 w' g s0_0 t431 t432) ∧ (KeepBut w w' g none) ∧ (Below w0.heap.size w0 w')) ?_ ?_
     rotate_left
     ·intro hJ4_11_15
      refine join_ (σ := Nat) 6 x11a17 (fun s_ => [(13, .int .i64 t424), (20, .int .i64 t427), (6, .pointer (some ⟨s_, 0, none⟩)), (16, .int .i64 (wrap64 (t424 - (ji8)))), (17, .int .i64 (wrap64 ((wrap64 (t424 - (ji8))) - 1)))]) (fun s_ w' => (w'.heap[gb420]? = some (.cells #[.int .i64 0, .int .i64 0, .int .i64 0, .int .i64 0, .bool false] 62 (0, 0))) ∧ (w'.heap[s_]? = some (.cells #[.int .i64 0, .int .i64 0, .int .i64 0, .int .i64 0, .bool false] 62 (0, 0))) ∧ (w.heap.size ≤ s_) ∧ (w0.heap.size ≤ s_) ∧ (g ≠ s_) ∧ (s_ ≠ g) ∧ (gb420 ≠ s_) ∧ (s_ ≠ gb420) ∧ (IsS129 w0 w' g s0_0 t428 t429) ∧ (KeepBut w w' g none) ∧ (Below w0.heap.size w0 w')) ?_ ?_
      rotate_left
      ·intro hJ4_11_21
       refine join_ (σ := Unit) 7 x11a18 (fun s_ => [(13, .int .i64 t424), (20, .int .i64 t427), (16, .int .i64 (wrap64 (t424 - (ji8)))), (17, .int .i64 (wrap64 ((wrap64 (t424 - (ji8))) - 1)))]) (fun s_ w' => (w'.heap[gb420]? = some (.cells #[.int .i64 0, .int .i64 0, .int .i64 0, .int .i64 0, .bool false] 62 (0, 0))) ∧ (IsS129 w0 w' g s0_0 t428 t429) ∧ (KeepBut w w' g none) ∧ (Below w0.heap.size w0 w')) ?_ ?_
       rotate_left
       ·intro hJ4_11
        refine join_ (σ := Nat) 7 x11a19 (fun s_ => [(13, .int .i64 t424), (6, .pointer (some ⟨s_, 0, none⟩)), (16, .int .i64 (wrap64 (t424 - (ji8)))), (17, .int .i64 (wrap64 ((wrap64 (t424 - (ji8))) - 1)))]) (fun s_ w' => (w'.heap[gb420]? = some (.cells #[.int .i64 0, .int .i64 0, .int .i64 0, .int .i64 0, .bool false] 62 (0, 0))) ∧ (w'.heap[s_]? = some (.cells #[.int .i64 0, .int .i64 0, .int .i64 0, .int .i64 0, .bool false] 62 (0, 0))) ∧ (w.heap.size ≤ s_) ∧ (w0.heap.size ≤ s_) ∧ (g ≠ s_) ∧ (s_ ≠ g) ∧ (gb420 ≠ s_) ∧ (s_ ≠ gb420) ∧ (IsS129 w0 w' g s0_0 t425 t426) ∧ (KeepBut w w' g none) ∧ (Below w0.heap.size w0 w')) ?_ ?_
        rotate_left
        ·intro hJ4_21
         refine join_ (σ := Unit) 8 x11a20 (fun s_ => [(13, .int .i64 t424), (16, .int .i64 (wrap64 (t424 - (ji8)))), (17, .int .i64 (wrap64 ((wrap64 (t424 - (ji8))) - 1)))]) (fun s_ w' => (w'.heap[gb420]? = some (.cells #[.int .i64 0, .int .i64 0, .int .i64 0, .int .i64 0, .bool false] 62 (0, 0))) ∧ (IsS129 w0 w' g s0_0 t425 t426) ∧ (KeepBut w w' g none) ∧ (Below w0.heap.size w0 w')) ?_ ?_
         rotate_left
         ·intro hJ4
          refine join_ (σ := Nat) 10 x11a21 (fun s_ => [(6, .pointer (some ⟨s_, 0, none⟩))]) (fun s_ w' => (w'.heap[gb420]? = some (.cells #[.int .i64 0, .int .i64 0, .int .i64 0, .int .i64 0, .bool false] 62 (0, 0))) ∧ (w'.heap[s_]? = some (.cells #[.int .i64 0, .int .i64 0, .int .i64 0, .int .i64 0, .bool false] 62 (0, 0))) ∧ (w.heap.size ≤ s_) ∧ (w0.heap.size ≤ s_) ∧ (g ≠ s_) ∧ (s_ ≠ g) ∧ (gb420 ≠ s_) ∧ (s_ ≠ gb420) ∧ (IsS129 w0 w' g s0_0 t422 t423) ∧ (KeepBut w w' g none) ∧ (Below w0.heap.size w0 w')) ?_ ?_
          rotate_left
          ·intro hJ21
           refine xW 4 21 13 6 x11a22 x11a21 (fun K hK => ?_) (fun K hK => ?_)
           ·skip
            refine xY1 hji5 Try.func229 #[.pointer (some ⟨g, 0, none⟩), .int .i64 (wrap64 ((ji5) + 3))] ?_
            with_reducible refine (spec_l1Cur_pick.calls g s0_0 t422 t423 (wrap64 ((ji5) + 3)) t424 t425 t426 w0 _ ?side1 ?side2 A6.out).mono ?_
            (case side1 => exact xJ129_12_1 NB0_420.out HI0.out)
            (case side2 => exact xB2 (IsS129.ge HI0.out) GE420.out HB.out)
            rintro e w18 ⟨rfl, hi, hb, hk⟩
            refine ⟨_, rfl, ?_⟩
            replace BK420 := xkk hk BK420 NB420_0
            replace HK := xA (KeepBut.trans (xH1 GW420.out HK.out) hk (.inl rfl))
            replace HB := xA (hb)
            replace HI0 := xA (hi)
            (try clear hb); (try clear hb2); (try clear hk); (try clear hi)
            refine hK.out _ _ trivial (fun hHeld => ?_)
            clear hK K
            refine xN ?_
            refine xP 7 16 x11a23 ?_
            refine xP 8 17 x11a20 ?_
            exact xNJ (hJ4 () _ ⟨(xK BK420.out), (xJ129_12_1 NB0_420.out HI0.out), (xH1 GW420.out HK.out), (xB2 (IsS129.ge HI0.out) GE420.out HB.out)⟩)
           ·skip
            refine box_step ?hg (N := 6) ?hd (cs := #[.int .i64 0, .int .i64 0, .int .i64 0, .int .i64 0, .bool false]) (t := 62) ?hr ?_; (case hd => rfl); (case hg => rfl); (case hr => first | (go_simp; done) | (go_simp; rfl))
            intro gb436 hg w18 hbox hb
            replace HB := xA (below_step (xB2 (IsS129.ge HI0.out) GE420.out HB.out) hb)
            have BK436 := xA (hbox)
            have GW436 := xA ((by rw [hg]; exact (keep_size (w := w) (g := g) (row := none) (xH1 GW420.out HK.out)) : w.heap.size ≤ gb436))
            have GE436 := xA ((Nat.le_trans HW0.out (by rw [hg]; exact (keep_size (w := w) (g := g) (row := none) (xH1 GW420.out HK.out)) : w.heap.size ≤ gb436) : w0.heap.size ≤ gb436))
            replace HK := xA (KeepBut.trans (xH1 GW420.out HK.out) (KeepBut.of_below hb g none) (.inl rfl))
            have NB420_436 := xnl hg BK420
            have NB436_420 := xng hg BK420
            replace BK420 := xkb BK420 hb
            have NB0_436 := xA ((by rw [hg]; exact Nat.ne_of_lt (IsS129.lt (show IsS129 w0 _ g s0_0 t422 t423 from xJ129_12_1 NB0_420.out HI0.out)) : g ≠ gb436))
            have NB436_0 := xA ((by rw [hg]; exact Nat.ne_of_gt (IsS129.lt (show IsS129 w0 _ g s0_0 t422 t423 from xJ129_12_1 NB0_420.out HI0.out)) : gb436 ≠ g))
            replace HI0 := xA (IsS129.below (xJ129_12_1 NB0_420.out HI0.out) hb)
            clear hb hbox hg
            refine hK.out _ _ trivial (fun hHeld => ?_)
            clear hK K
            refine xN ?_
            exact xNJ (hJ21 (gb436) _ ⟨(xK BK420.out), (xK BK436.out), GW436.out, GE436.out, NB0_436.out, NB436_0.out, NB420_436.out, NB436_420.out, (xJ129_12_2 NB0_420.out NB0_436.out HI0.out), (xH2 GW420.out GW436.out HK.out), (xB3 (IsS129.ge HI0.out) GE420.out GE436.out HB.out)⟩)
          ·skip
           rintro gb436 w19 ⟨h0_, h1_, h2_, h3_, h4_, h5_, h6_, h7_, h8_, h9_, h10_⟩
           replace BK420 := xA h0_
           have BK436 := xA h1_
           have GW436 := xA h2_
           have GE436 := xA h3_
           have NB0_436 := xA h4_
           have NB436_0 := xA h5_
           have NB420_436 := xA h6_
           have NB436_420 := xA h7_
           replace HI0 := xA h8_
           replace HK := xA h9_
           replace HB := xA h10_
           clear h0_ h1_ h2_ h3_ h4_ h5_ h6_ h7_ h8_ h9_ h10_
           have hHeld := trivial
           refine xNp ?_
           refine xU 4 13 x11a24 (fun K hK => ?_)
           refine xY1 hji5 Try.func229 #[.pointer (some ⟨g, 0, none⟩), .int .i64 (wrap64 ((ji5) + 3))] ?_
           with_reducible refine (spec_l1Cur_pick.calls g s0_0 t422 t423 (wrap64 ((ji5) + 3)) t424 t425 t426 w0 _ ?side1 ?side2 A6.out).mono ?_
           (case side1 => exact xJ129_12_2 NB0_420.out NB0_436.out HI0.out)
           (case side2 => exact xB3 (IsS129.ge HI0.out) GE420.out GE436.out HB.out)
           rintro e w20 ⟨rfl, hi, hb, hk⟩
           refine ⟨_, rfl, ?_⟩
           replace BK420 := xkk hk BK420 NB420_0
           replace BK436 := xkk hk BK436 NB436_0
           replace HK := xA (KeepBut.trans (xH2 GW420.out GW436.out HK.out) hk (.inl rfl))
           replace HB := xA (hb)
           replace HI0 := xA (hi)
           (try clear hb); (try clear hb2); (try clear hk); (try clear hi)
           refine hK.out _ _ trivial (fun hHeld => ?_)
           clear hK K
           refine xN ?_
           refine xP 7 16 x11a25 ?_
           refine xP 8 17 x11a19 ?_
           exact xNJ (hJ4_21 (gb436) _ ⟨(xK BK420.out), (xK BK436.out), GW436.out, GE436.out, NB0_436.out, NB436_0.out, NB420_436.out, NB436_420.out, (xJ129_12_2 NB0_420.out NB0_436.out HI0.out), (xH2 GW420.out GW436.out HK.out), (xB3 (IsS129.ge HI0.out) GE420.out GE436.out HB.out)⟩)
         ·skip
          rintro _ w19 ⟨h0_, h1_, h2_, h3_⟩
          replace BK420 := xA h0_
          replace HI0 := xA h1_
          replace HK := xA h2_
          replace HB := xA h3_
          clear h0_ h1_ h2_ h3_
          have hHeld := trivial
          refine xNp ?_
          refine xW 11 21 20 6 x11a18 x11a19 (fun K hK => ?_) (fun K hK => ?_)
          ·skip
           refine xY Try.func229 #[.pointer (some ⟨g, 0, none⟩), .int .i64 3] ?_
           with_reducible refine (spec_l1Cur_pick.calls g s0_0 t425 t426 3 t427 t428 t429 w0 _ ?side1 ?side2 A9.out).mono ?_
           (case side1 => exact xJ129_12_1 NB0_420.out HI0.out)
           (case side2 => exact xB2 (IsS129.ge HI0.out) GE420.out HB.out)
           rintro e w20 ⟨rfl, hi, hb, hk⟩
           refine ⟨_, rfl, ?_⟩
           replace BK420 := xkk hk BK420 NB420_0
           replace HK := xA (KeepBut.trans (xH1 GW420.out HK.out) hk (.inl rfl))
           replace HB := xA (hb)
           replace HI0 := xA (hi)
           (try clear hb); (try clear hb2); (try clear hk); (try clear hi)
           refine hK.out _ _ trivial (fun hHeld => ?_)
           clear hK K
           refine xN ?_
           exact xNJ (hJ4_11 () _ ⟨(xK BK420.out), (xJ129_12_1 NB0_420.out HI0.out), (xH1 GW420.out HK.out), (xB2 (IsS129.ge HI0.out) GE420.out HB.out)⟩)
          ·skip
           refine box_step ?hg (N := 6) ?hd (cs := #[.int .i64 0, .int .i64 0, .int .i64 0, .int .i64 0, .bool false]) (t := 62) ?hr ?_; (case hd => rfl); (case hg => rfl); (case hr => first | (go_simp; done) | (go_simp; rfl))
           intro gb436 hg w20 hbox hb
           replace HB := xA (below_step (xB2 (IsS129.ge HI0.out) GE420.out HB.out) hb)
           have BK436 := xA (hbox)
           have GW436 := xA ((by rw [hg]; exact (keep_size (w := w) (g := g) (row := none) (xH1 GW420.out HK.out)) : w.heap.size ≤ gb436))
           have GE436 := xA ((Nat.le_trans HW0.out (by rw [hg]; exact (keep_size (w := w) (g := g) (row := none) (xH1 GW420.out HK.out)) : w.heap.size ≤ gb436) : w0.heap.size ≤ gb436))
           replace HK := xA (KeepBut.trans (xH1 GW420.out HK.out) (KeepBut.of_below hb g none) (.inl rfl))
           have NB420_436 := xnl hg BK420
           have NB436_420 := xng hg BK420
           replace BK420 := xkb BK420 hb
           have NB0_436 := xA ((by rw [hg]; exact Nat.ne_of_lt (IsS129.lt (show IsS129 w0 _ g s0_0 t425 t426 from xJ129_12_1 NB0_420.out HI0.out)) : g ≠ gb436))
           have NB436_0 := xA ((by rw [hg]; exact Nat.ne_of_gt (IsS129.lt (show IsS129 w0 _ g s0_0 t425 t426 from xJ129_12_1 NB0_420.out HI0.out)) : gb436 ≠ g))
           replace HI0 := xA (IsS129.below (xJ129_12_1 NB0_420.out HI0.out) hb)
           clear hb hbox hg
           refine hK.out _ _ trivial (fun hHeld => ?_)
           clear hK K
           refine xN ?_
           exact xNJ (hJ4_21 (gb436) _ ⟨(xK BK420.out), (xK BK436.out), GW436.out, GE436.out, NB0_436.out, NB436_0.out, NB420_436.out, NB436_420.out, (xJ129_12_2 NB0_420.out NB0_436.out HI0.out), (xH2 GW420.out GW436.out HK.out), (xB3 (IsS129.ge HI0.out) GE420.out GE436.out HB.out)⟩)
        ·skip
         rintro gb436 w20 ⟨h0_, h1_, h2_, h3_, h4_, h5_, h6_, h7_, h8_, h9_, h10_⟩
         replace BK420 := xA h0_
         have BK436 := xA h1_
         have GW436 := xA h2_
         have GE436 := xA h3_
         have NB0_436 := xA h4_
         have NB436_0 := xA h5_
         have NB420_436 := xA h6_
         have NB436_420 := xA h7_
         replace HI0 := xA h8_
         replace HK := xA h9_
         replace HB := xA h10_
         clear h0_ h1_ h2_ h3_ h4_ h5_ h6_ h7_ h8_ h9_ h10_
         have hHeld := trivial
         refine xNp ?_
         refine xU 11 20 x11a17 (fun K hK => ?_)
         refine xY Try.func229 #[.pointer (some ⟨g, 0, none⟩), .int .i64 3] ?_
         with_reducible refine (spec_l1Cur_pick.calls g s0_0 t425 t426 3 t427 t428 t429 w0 _ ?side1 ?side2 A9.out).mono ?_
         (case side1 => exact xJ129_12_2 NB0_420.out NB0_436.out HI0.out)
         (case side2 => exact xB3 (IsS129.ge HI0.out) GE420.out GE436.out HB.out)
         rintro e w21 ⟨rfl, hi, hb, hk⟩
         refine ⟨_, rfl, ?_⟩
         replace BK420 := xkk hk BK420 NB420_0
         replace BK436 := xkk hk BK436 NB436_0
         replace HK := xA (KeepBut.trans (xH2 GW420.out GW436.out HK.out) hk (.inl rfl))
         replace HB := xA (hb)
         replace HI0 := xA (hi)
         (try clear hb); (try clear hb2); (try clear hk); (try clear hi)
         refine hK.out _ _ trivial (fun hHeld => ?_)
         clear hK K
         refine xN ?_
         exact xNJ (hJ4_11_21 (gb436) _ ⟨(xK BK420.out), (xK BK436.out), GW436.out, GE436.out, NB0_436.out, NB436_0.out, NB420_436.out, NB436_420.out, (xJ129_12_2 NB0_420.out NB0_436.out HI0.out), (xH2 GW420.out GW436.out HK.out), (xB3 (IsS129.ge HI0.out) GE420.out GE436.out HB.out)⟩)
       ·skip
        rintro _ w20 ⟨h0_, h1_, h2_, h3_⟩
        replace BK420 := xA h0_
        replace HI0 := xA h1_
        replace HK := xA h2_
        replace HB := xA h3_
        clear h0_ h1_ h2_ h3_
        have hHeld := trivial
        refine xNp ?_
        refine xW 15 21 24 6 x11a26 x11a17 (fun K hK => ?_) (fun K hK => ?_)
        ·skip
         refine xY Try.func229 #[.pointer (some ⟨g, 0, none⟩), .int .i64 (wrap64 (a1 - 1))] ?_
         with_reducible refine (spec_l1Cur_pick.calls g s0_0 t428 t429 (wrap64 (a1 - 1)) t430 t431 t432 w0 _ ?side1 ?side2 A10.out).mono ?_
         (case side1 => exact xJ129_12_1 NB0_420.out HI0.out)
         (case side2 => exact xB2 (IsS129.ge HI0.out) GE420.out HB.out)
         rintro e w21 ⟨rfl, hi, hb, hk⟩
         refine ⟨_, rfl, ?_⟩
         replace BK420 := xkk hk BK420 NB420_0
         replace HK := xA (KeepBut.trans (xH1 GW420.out HK.out) hk (.inl rfl))
         replace HB := xA (hb)
         replace HI0 := xA (hi)
         (try clear hb); (try clear hb2); (try clear hk); (try clear hi)
         refine hK.out _ _ trivial (fun hHeld => ?_)
         clear hK K
         refine xN ?_
         refine xP 16 25 x11a16 ?_
         exact xNJ (hJ4_11_15 () _ ⟨(xK BK420.out), (xJ129_12_1 NB0_420.out HI0.out), (xH1 GW420.out HK.out), (xB2 (IsS129.ge HI0.out) GE420.out HB.out)⟩)
        ·skip
         refine box_step ?hg (N := 6) ?hd (cs := #[.int .i64 0, .int .i64 0, .int .i64 0, .int .i64 0, .bool false]) (t := 62) ?hr ?_; (case hd => rfl); (case hg => rfl); (case hr => first | (go_simp; done) | (go_simp; rfl))
         intro gb436 hg w21 hbox hb
         replace HB := xA (below_step (xB2 (IsS129.ge HI0.out) GE420.out HB.out) hb)
         have BK436 := xA (hbox)
         have GW436 := xA ((by rw [hg]; exact (keep_size (w := w) (g := g) (row := none) (xH1 GW420.out HK.out)) : w.heap.size ≤ gb436))
         have GE436 := xA ((Nat.le_trans HW0.out (by rw [hg]; exact (keep_size (w := w) (g := g) (row := none) (xH1 GW420.out HK.out)) : w.heap.size ≤ gb436) : w0.heap.size ≤ gb436))
         replace HK := xA (KeepBut.trans (xH1 GW420.out HK.out) (KeepBut.of_below hb g none) (.inl rfl))
         have NB420_436 := xnl hg BK420
         have NB436_420 := xng hg BK420
         replace BK420 := xkb BK420 hb
         have NB0_436 := xA ((by rw [hg]; exact Nat.ne_of_lt (IsS129.lt (show IsS129 w0 _ g s0_0 t428 t429 from xJ129_12_1 NB0_420.out HI0.out)) : g ≠ gb436))
         have NB436_0 := xA ((by rw [hg]; exact Nat.ne_of_gt (IsS129.lt (show IsS129 w0 _ g s0_0 t428 t429 from xJ129_12_1 NB0_420.out HI0.out)) : gb436 ≠ g))
         replace HI0 := xA (IsS129.below (xJ129_12_1 NB0_420.out HI0.out) hb)
         clear hb hbox hg
         refine hK.out _ _ trivial (fun hHeld => ?_)
         clear hK K
         refine xN ?_
         exact xNJ (hJ4_11_21 (gb436) _ ⟨(xK BK420.out), (xK BK436.out), GW436.out, GE436.out, NB0_436.out, NB436_0.out, NB420_436.out, NB436_420.out, (xJ129_12_2 NB0_420.out NB0_436.out HI0.out), (xH2 GW420.out GW436.out HK.out), (xB3 (IsS129.ge HI0.out) GE420.out GE436.out HB.out)⟩)
      ·skip
       rintro gb436 w21 ⟨h0_, h1_, h2_, h3_, h4_, h5_, h6_, h7_, h8_, h9_, h10_⟩
       replace BK420 := xA h0_
       have BK436 := xA h1_
       have GW436 := xA h2_
       have GE436 := xA h3_
       have NB0_436 := xA h4_
       have NB436_0 := xA h5_
       have NB420_436 := xA h6_
       have NB436_420 := xA h7_
       replace HI0 := xA h8_
       replace HK := xA h9_
       replace HB := xA h10_
       clear h0_ h1_ h2_ h3_ h4_ h5_ h6_ h7_ h8_ h9_ h10_
       have hHeld := trivial
       refine xNp ?_
       refine xU 15 24 x11a27 (fun K hK => ?_)
       refine xY Try.func229 #[.pointer (some ⟨g, 0, none⟩), .int .i64 (wrap64 (a1 - 1))] ?_
       with_reducible refine (spec_l1Cur_pick.calls g s0_0 t428 t429 (wrap64 (a1 - 1)) t430 t431 t432 w0 _ ?side1 ?side2 A10.out).mono ?_
       (case side1 => exact xJ129_12_2 NB0_420.out NB0_436.out HI0.out)
       (case side2 => exact xB3 (IsS129.ge HI0.out) GE420.out GE436.out HB.out)
       rintro e w22 ⟨rfl, hi, hb, hk⟩
       refine ⟨_, rfl, ?_⟩
       replace BK420 := xkk hk BK420 NB420_0
       replace BK436 := xkk hk BK436 NB436_0
       replace HK := xA (KeepBut.trans (xH2 GW420.out GW436.out HK.out) hk (.inl rfl))
       replace HB := xA (hb)
       replace HI0 := xA (hi)
       (try clear hb); (try clear hb2); (try clear hk); (try clear hi)
       refine hK.out _ _ trivial (fun hHeld => ?_)
       clear hK K
       refine xN ?_
       refine xP 16 25 x11a15 ?_
       exact xNJ (hJ4_11_15_21 (gb436) _ ⟨(xK BK420.out), (xK BK436.out), GW436.out, GE436.out, NB0_436.out, NB436_0.out, NB420_436.out, NB436_420.out, (xJ129_12_2 NB0_420.out NB0_436.out HI0.out), (xH2 GW420.out GW436.out HK.out), (xB3 (IsS129.ge HI0.out) GE420.out GE436.out HB.out)⟩)
     ·skip
      rintro _ w21 ⟨h0_, h1_, h2_, h3_⟩
      replace BK420 := xA h0_
      replace HI0 := xA h1_
      replace HK := xA h2_
      replace HB := xA h3_
      clear h0_ h1_ h2_ h3_
      have hHeld := trivial
      refine xNp ?_
      refine xW 18 21 27 6 x11a28 x11a15 (fun K hK => ?_) (fun K hK => ?_)
      ·skip
       refine xY Try.func227 #[.pointer (some ⟨g, 0, none⟩), .int .i64 2] ?_
       with_reducible refine (spec_l1Cur_one.calls g s0_0 t431 t432 2 t433 t434 t435 w0 _ ?side1 ?side2 A11.out).mono ?_
       (case side1 => exact xJ129_12_1 NB0_420.out HI0.out)
       (case side2 => exact xB2 (IsS129.ge HI0.out) GE420.out HB.out)
       rintro e w22 ⟨rfl, hi, hb, hk⟩
       refine ⟨_, rfl, ?_⟩
       replace BK420 := xkk hk BK420 NB420_0
       replace HK := xA (KeepBut.trans (xH1 GW420.out HK.out) hk (.inl rfl))
       replace HB := xA (hb)
       replace HI0 := xA (hi)
       (try clear hb); (try clear hb2); (try clear hk); (try clear hi)
       refine hK.out _ _ trivial (fun hHeld => ?_)
       clear hK K
       refine xN ?_
       refine xP 19 28 x11a29 ?_
       refine xP 20 29 x11a14 ?_
       exact xNJ (hJ4_11_15_18 () _ ⟨(xK BK420.out), (xJ129_12_1 NB0_420.out HI0.out), (xH1 GW420.out HK.out), (xB2 (IsS129.ge HI0.out) GE420.out HB.out)⟩)
      ·skip
       refine box_step ?hg (N := 6) ?hd (cs := #[.int .i64 0, .int .i64 0, .int .i64 0, .int .i64 0, .bool false]) (t := 62) ?hr ?_; (case hd => rfl); (case hg => rfl); (case hr => first | (go_simp; done) | (go_simp; rfl))
       intro gb436 hg w22 hbox hb
       replace HB := xA (below_step (xB2 (IsS129.ge HI0.out) GE420.out HB.out) hb)
       have BK436 := xA (hbox)
       have GW436 := xA ((by rw [hg]; exact (keep_size (w := w) (g := g) (row := none) (xH1 GW420.out HK.out)) : w.heap.size ≤ gb436))
       have GE436 := xA ((Nat.le_trans HW0.out (by rw [hg]; exact (keep_size (w := w) (g := g) (row := none) (xH1 GW420.out HK.out)) : w.heap.size ≤ gb436) : w0.heap.size ≤ gb436))
       replace HK := xA (KeepBut.trans (xH1 GW420.out HK.out) (KeepBut.of_below hb g none) (.inl rfl))
       have NB420_436 := xnl hg BK420
       have NB436_420 := xng hg BK420
       replace BK420 := xkb BK420 hb
       have NB0_436 := xA ((by rw [hg]; exact Nat.ne_of_lt (IsS129.lt (show IsS129 w0 _ g s0_0 t431 t432 from xJ129_12_1 NB0_420.out HI0.out)) : g ≠ gb436))
       have NB436_0 := xA ((by rw [hg]; exact Nat.ne_of_gt (IsS129.lt (show IsS129 w0 _ g s0_0 t431 t432 from xJ129_12_1 NB0_420.out HI0.out)) : gb436 ≠ g))
       replace HI0 := xA (IsS129.below (xJ129_12_1 NB0_420.out HI0.out) hb)
       clear hb hbox hg
       refine hK.out _ _ trivial (fun hHeld => ?_)
       clear hK K
       refine xN ?_
       exact xNJ (hJ4_11_15_21 (gb436) _ ⟨(xK BK420.out), (xK BK436.out), GW436.out, GE436.out, NB0_436.out, NB436_0.out, NB420_436.out, NB436_420.out, (xJ129_12_2 NB0_420.out NB0_436.out HI0.out), (xH2 GW420.out GW436.out HK.out), (xB3 (IsS129.ge HI0.out) GE420.out GE436.out HB.out)⟩)
    ·skip
     rintro gb436 w22 ⟨h0_, h1_, h2_, h3_, h4_, h5_, h6_, h7_, h8_, h9_, h10_⟩
     replace BK420 := xA h0_
     have BK436 := xA h1_
     have GW436 := xA h2_
     have GE436 := xA h3_
     have NB0_436 := xA h4_
     have NB436_0 := xA h5_
     have NB420_436 := xA h6_
     have NB436_420 := xA h7_
     replace HI0 := xA h8_
     replace HK := xA h9_
     replace HB := xA h10_
     clear h0_ h1_ h2_ h3_ h4_ h5_ h6_ h7_ h8_ h9_ h10_
     have hHeld := trivial
     refine xNp ?_
     refine xU 18 27 x11a30 (fun K hK => ?_)
     refine xY Try.func227 #[.pointer (some ⟨g, 0, none⟩), .int .i64 2] ?_
     with_reducible refine (spec_l1Cur_one.calls g s0_0 t431 t432 2 t433 t434 t435 w0 _ ?side1 ?side2 A11.out).mono ?_
     (case side1 => exact xJ129_12_2 NB0_420.out NB0_436.out HI0.out)
     (case side2 => exact xB3 (IsS129.ge HI0.out) GE420.out GE436.out HB.out)
     rintro e w23 ⟨rfl, hi, hb, hk⟩
     refine ⟨_, rfl, ?_⟩
     replace BK420 := xkk hk BK420 NB420_0
     replace BK436 := xkk hk BK436 NB436_0
     replace HK := xA (KeepBut.trans (xH2 GW420.out GW436.out HK.out) hk (.inl rfl))
     replace HB := xA (hb)
     replace HI0 := xA (hi)
     (try clear hb); (try clear hb2); (try clear hk); (try clear hi)
     refine hK.out _ _ trivial (fun hHeld => ?_)
     clear hK K
     refine xN ?_
     refine xP 19 28 x11a31 ?_
     refine xP 20 29 x11a13 ?_
     exact xNJ (hJ4_11_15_18_21 (gb436) _ ⟨(xK BK420.out), (xK BK436.out), GW436.out, GE436.out, NB0_436.out, NB436_0.out, NB420_436.out, NB436_420.out, (xJ129_12_2 NB0_420.out NB0_436.out HI0.out), (xH2 GW420.out GW436.out HK.out), (xB3 (IsS129.ge HI0.out) GE420.out GE436.out HB.out)⟩)
   ·skip
    rintro _ w22 ⟨h0_, h1_, h2_, h3_⟩
    replace BK420 := xA h0_
    replace HI0 := xA h1_
    replace HK := xA h2_
    replace HB := xA h3_
    clear h0_ h1_ h2_ h3_
    have hHeld := trivial
    refine xNp ?_
    refine xU 21 6 x11a13 (fun K hK => ?_)
    refine box_step ?hg (N := 6) ?hd (cs := #[.int .i64 0, .int .i64 0, .int .i64 0, .int .i64 0, .bool false]) (t := 62) ?hr ?_; (case hd => rfl); (case hg => rfl); (case hr => first | (go_simp; done) | (go_simp; rfl))
    intro gb436 hg w23 hbox hb
    replace HB := xA (below_step (xB2 (IsS129.ge HI0.out) GE420.out HB.out) hb)
    have BK436 := xA (hbox)
    have GW436 := xA ((by rw [hg]; exact (keep_size (w := w) (g := g) (row := none) (xH1 GW420.out HK.out)) : w.heap.size ≤ gb436))
    have GE436 := xA ((Nat.le_trans HW0.out (by rw [hg]; exact (keep_size (w := w) (g := g) (row := none) (xH1 GW420.out HK.out)) : w.heap.size ≤ gb436) : w0.heap.size ≤ gb436))
    replace HK := xA (KeepBut.trans (xH1 GW420.out HK.out) (KeepBut.of_below hb g none) (.inl rfl))
    have NB420_436 := xnl hg BK420
    have NB436_420 := xng hg BK420
    replace BK420 := xkb BK420 hb
    have NB0_436 := xA ((by rw [hg]; exact Nat.ne_of_lt (IsS129.lt (show IsS129 w0 _ g s0_0 t434 t435 from xJ129_12_1 NB0_420.out HI0.out)) : g ≠ gb436))
    have NB436_0 := xA ((by rw [hg]; exact Nat.ne_of_gt (IsS129.lt (show IsS129 w0 _ g s0_0 t434 t435 from xJ129_12_1 NB0_420.out HI0.out)) : gb436 ≠ g))
    replace HI0 := xA (IsS129.below (xJ129_12_1 NB0_420.out HI0.out) hb)
    clear hb hbox hg
    refine hK.out _ _ trivial (fun hHeld => ?_)
    clear hK K
    refine xN ?_
    exact xNJ (hJ4_11_15_18_21 (gb436) _ ⟨(xK BK420.out), (xK BK436.out), GW436.out, GE436.out, NB0_436.out, NB436_0.out, NB420_436.out, NB436_420.out, (xJ129_12_2 NB0_420.out NB0_436.out HI0.out), (xH2 GW420.out GW436.out HK.out), (xB3 (IsS129.ge HI0.out) GE420.out GE436.out HB.out)⟩)
  rintro gb436 w23 ⟨h0_, h1_, h2_, h3_, h4_, h5_, h6_, h7_, h8_, h9_, h10_⟩
  replace BK420 := xA h0_
  have BK436 := xA h1_
  have GW436 := xA h2_
  have GE436 := xA h3_
  have NB0_436 := xA h4_
  have NB436_0 := xA h5_
  have NB420_436 := xA h6_
  have NB436_420 := xA h7_
  replace HI0 := xA h8_
  replace HK := xA h9_
  replace HB := xA h10_
  clear h0_ h1_ h2_ h3_ h4_ h5_ h6_ h7_ h8_ h9_ h10_
  have hHeld := trivial
  refine xNp ?_
  refine one_ (i := 22) (N := none) x11a32 rfl rfl (one_of HT_.out (by kernel_rfl)) (by decide) (fun K hK => ?_)
  have hs24 : w23.cell? ⟨gb436, 0, none⟩ = some (.int .i64 0) := (blk_cell BK436.out 0).trans rfl
  have hfs24 := blk_frozen BK436.out 0
  have hns24_0 := NB420_436.out
  have hms24_0 := NB436_420.out
  have hs25 : w23.cell? ⟨gb436, 1, none⟩ = some (.int .i64 0) := (blk_cell BK436.out 1).trans rfl
  have hfs25 := blk_frozen BK436.out 1
  have hns25_0 := NB420_436.out
  have hms25_0 := NB436_420.out
  have hs26 : w23.cell? ⟨gb436, 2, none⟩ = some (.int .i64 0) := (blk_cell BK436.out 2).trans rfl
  have hfs26 := blk_frozen BK436.out 2
  have hns26_0 := NB420_436.out
  have hms26_0 := NB436_420.out
  have hs27 : w23.cell? ⟨gb436, 3, none⟩ = some (.int .i64 0) := (blk_cell BK436.out 3).trans rfl
  have hfs27 := blk_frozen BK436.out 3
  have hns27_0 := NB420_436.out
  have hms27_0 := NB436_420.out
  have hs28 : w23.cell? ⟨gb436, 4, none⟩ = some (.bool false) := (blk_cell BK436.out 4).trans rfl
  have hfs28 := blk_frozen BK436.out 4
  have hns28_0 := NB420_436.out
  have hms28_0 := NB436_420.out
  refine skip_ (w1 := ?_) (by rfl) rfl ?_ ?_
  rotate_left
  ·go_simp
   rfl
  refine hK.out _ _ trivial (fun hHeld => ?_)
  clear hK K
  refine xDn ?_
 ·skip
  try go_wp2_with (first | (refine xq rfl ?_; first | (refine xG (some 31) Try.func229 #[.pointer (some ⟨g, 0, none⟩), .int .i64 18] ?_; (with_reducible refine (spec_l1Cur_pick.calls g s0_0 t434 t435 18 t437 t438 t439 w0 _ ?side1 ?side2 A12.out).mono ?_); (case side1 => exact xJ129_12_2 NB0_420.out NB0_436.out HI0.out); (case side2 => exact xB3 (IsS129.ge HI0.out) GE420.out GE436.out HB.out); rintro e w107 ⟨rfl, hi, hb, hk⟩; refine ⟨_, rfl, ?_⟩; replace BK420 := xA (KeepBut.blk hk (xF1 NB420_436.out BK420.out) NB420_0.out (by simp)); replace BK436 := xA (KeepBut.blk hk (g' := gb436) (o := .cells #[.int .i64 (wrap64 ((wrap64 (t424 - (ji8))) - 1)), .int .i64 t421, .int .i64 t427, .int .i64 (wrap64 (2 + t430)), .bool t433] 62 (0, 0)) (xPt0 BK436.out) NB436_0.out (by simp)); replace HK := xA (KeepBut.trans (xH2 GW420.out GW436.out HK.out) hk (.inl rfl)); replace HB := xA (hb); replace HI0 := xA (hi); (try clear hb hk hi)) | (refine xG (some 53) Try.func265 #[.pointer (some ⟨g, 0, none⟩)] ?_; (with_reducible refine (spec_l1Cur_word.calls g s0_0 t438 t439 t458 t459 t460 t461 w0 _ ?side1 ?side2 A92.out).mono ?_); (case side1 => exact xJ129_12_2 NB0_420.out NB0_436.out HI0.out); (case side2 => exact xB3 (IsS129.ge HI0.out) GE420.out GE436.out HB.out); rintro e w108 ⟨rfl, hi, hb, hk⟩; refine ⟨_, rfl, ?_⟩; replace BK420 := xkk hk BK420 NB420_0; replace BK436 := xkk hk BK436 NB436_0; replace HK := xA (KeepBut.trans (xH2 GW420.out GW436.out HK.out) hk (.inl rfl)); replace HB := xA (hb); replace HI0 := xA (hi); (try clear hb hk hi); have hnb109 := NB436_420.out; have hnc109 := NB420_436.out; have hnb110 := NB436_0.out; have hnc110 := NB0_436.out; replace hz436 := blk_cell BK436.out; replace hy436 := blk_frozen BK436.out; have hnb112 := NB420_0.out; have hnc112 := NB0_420.out; replace hz420 := blk_cell BK420.out; replace hy420 := blk_frozen BK420.out)))
  refine bodyPost_ret (results_cell_row rfl _ _ gb420 62 #[.int .i64 (wrap64 ((wrap64 (t424 - (ji8))) - 1)), .int .i64 t421, .int .i64 t427, .int .i64 t458, .bool t459] (0, 0) _ rfl (xPt1 NB420_436.out BK420.out) Try.underlying62 rfl (by kernel_rfl)) rfl ?_
  exact ⟨by first | rfl | (simp [errW_none, errW_some] <;> rfl) | (simp only [← hji5, ← hji8]; first | rfl | (simp [errW_none, errW_some] <;> rfl)) | (simp [*, errW_none, errW_some] <;> rfl), xJ129_12_2 NB0_420.out NB0_436.out HI0.out, xB3 (IsS129.ge HI0.out) GE420.out GE436.out HB.out, xH2 GW420.out GW436.out HK.out⟩
 ·skip
  try go_wp2_with (first | (refine xG (some 31) Try.func229 #[.pointer (some ⟨g, 0, none⟩), .int .i64 18] ?_; (with_reducible refine (spec_l1Cur_pick.calls g s0_0 t434 t435 18 t437 t438 t439 w0 _ ?side1 ?side2 A12.out).mono ?_); (case side1 => exact xJ129_12_2 NB0_420.out NB0_436.out HI0.out); (case side2 => exact xB3 (IsS129.ge HI0.out) GE420.out GE436.out HB.out); rintro e w128 ⟨rfl, hi, hb, hk⟩; refine ⟨_, rfl, ?_⟩; replace BK420 := xA (KeepBut.blk hk (xF1 NB420_436.out BK420.out) NB420_0.out (by simp)); replace BK436 := xA (KeepBut.blk hk (g' := gb436) (o := .cells #[.int .i64 (wrap64 ((wrap64 (t424 - (ji8))) - 1)), .int .i64 t421, .int .i64 t427, .int .i64 (wrap64 (2 + t430)), .bool t433] 62 (0, 0)) (xPt0 BK436.out) NB436_0.out (by simp)); replace HK := xA (KeepBut.trans (xH2 GW420.out GW436.out HK.out) hk (.inl rfl)); replace HB := xA (hb); replace HI0 := xA (hi); (try clear hb hk hi); have hnb129 := NB436_420.out; have hnc129 := NB420_436.out; have hnb130 := NB436_0.out; have hnc130 := NB0_436.out; replace hz436 := blk_cell BK436.out; replace hy436 := blk_frozen BK436.out; have hnb132 := NB420_0.out; have hnc132 := NB0_420.out; replace hz420 := blk_cell BK420.out; replace hy420 := blk_frozen BK420.out))
  refine bodyPost_ret (results_cell_row rfl _ _ gb420 62 #[.int .i64 (wrap64 ((wrap64 (t424 - (ji8))) - 1)), .int .i64 t421, .int .i64 t427, .int .i64 (wrap64 (2 + t430)), .bool t433] (0, 0) _ rfl (xPt0 BK420.out) Try.underlying62 rfl (by kernel_rfl)) rfl ?_
  exact ⟨by first | rfl | (simp [errW_none, errW_some] <;> rfl) | (simp only [← hji5, ← hji8]; first | rfl | (simp [errW_none, errW_some] <;> rfl)) | (simp [*, errW_none, errW_some] <;> rfl), xJ129_12_2 NB0_420.out NB0_436.out HI0.out, xB3 (IsS129.ge HI0.out) GE420.out GE436.out HB.out, xH2 GW420.out GW436.out HK.out⟩
 ·skip
  try go_wp2_with (first | (refine xq rfl ?_; first | (refine xG (some 31) Try.func229 #[.pointer (some ⟨g, 0, none⟩), .int .i64 18] ?_; (with_reducible refine (spec_l1Cur_pick.calls g s0_0 t434 t435 18 t437 t438 t439 w0 _ ?side1 ?side2 A12.out).mono ?_); (case side1 => exact xJ129_12_2 NB0_420.out NB0_436.out HI0.out); (case side2 => exact xB3 (IsS129.ge HI0.out) GE420.out GE436.out HB.out); rintro e w29 ⟨rfl, hi, hb, hk⟩; refine ⟨_, rfl, ?_⟩; replace BK420 := xA (KeepBut.blk hk (xF1 NB420_436.out BK420.out) NB420_0.out (by simp)); replace BK436 := xA (KeepBut.blk hk (g' := gb436) (o := .cells #[.int .i64 (wrap64 ((wrap64 (t424 - (ji8))) - 1)), .int .i64 t421, .int .i64 t427, .int .i64 (wrap64 (2 + t430)), .bool t433] 62 (0, 0)) (xPt0 BK436.out) NB436_0.out (by simp)); replace HK := xA (KeepBut.trans (xH2 GW420.out GW436.out HK.out) hk (.inl rfl)); replace HB := xA (hb); replace HI0 := xA (hi); (try clear hb hk hi)) | (refine xG (some 36) Try.func228 #[.pointer (some ⟨g, 0, none⟩), .slice Ao32 y440.length co32] ?_; (with_reducible refine (spec_l1Cur_among.calls g s0_0 t438 t439 _ _ y440 t443 t444 t445 w0 _ ?side1 ?side2 ?side3 ?side4 ?side5 A14.out).mono ?_); (case side1 => exact xJ129_12_2 NB0_420.out NB0_436.out HI0.out); (case side2 => exact xB3 (IsS129.ge HI0.out) GE420.out GE436.out HB.out); (case side3 => exact xC ((Kd.R_reads' HO442.out).2.2)); (case side4 => exact (Kd.R_reads' HO442.out).2.1); (case side5 => exact far_slice (IsS129.own_ne HI0.out HO442.out (by decide))); rintro e w33 ⟨rfl, hi, hb, hk⟩; refine ⟨_, rfl, ?_⟩; replace BK420 := xkk hk BK420 NB420_0; replace BK436 := xkk hk BK436 NB436_0; replace HO442 := xA (Kd.R_mono (Kd.R_keep (IsS129.apart (show IsS129 w0 _ g s0_0 t438 t439 from xJ129_12_2 NB0_420.out NB0_436.out HI0.out) (xR HO442.out) (by decide)) hk (fun _ h => h.2)) (fun _ h => h.1)); replace HK := xA (KeepBut.trans (xH2 GW420.out GW436.out HK.out) hk (.inl rfl)); replace HB := xA (hb); replace HI0 := xA (hi); (try clear hb hk hi); have hnb34 := NB436_420.out; have hnc34 := NB420_436.out; have hnb35 := NB436_0.out; have hnc35 := NB0_436.out; replace hz436 := blk_cell BK436.out; replace hy436 := blk_frozen BK436.out; have hnb37 := NB420_0.out; have hnc37 := NB0_420.out; replace hz420 := blk_cell BK420.out; replace hy420 := blk_frozen BK420.out)) | ((with_reducible refine gate_dst (N := 35) rfl ?_); refine Kd.R_lit (Kd.int .i64) _ 3 ?hg (N := 35) ?hd (xs := ([1024, (-1024), 1025, (-4611686018427387904), 0] : List Int)) (inner := [.int .i64 1024, .int .i64 (-1024), .int .i64 1025, .int .i64 (-4611686018427387904), .int .i64 0]) (ok := fun _ => True) (okp := fun _ => True) ?hr ?hp (fun _ hk => hk) trivial (Below.refl _ _) (Nat.le_refl _) (by simp) ?_; (case hd => rfl); (case hg => rfl); (case hr => first | (go_simp; done) | (go_simp; rfl)); (case hp => exact (Reps.one (show Kd.M (Kd.int .i64) _ _ _ 1024 [.int .i64 1024] from rfl) (Reps.one (show Kd.M (Kd.int .i64) _ _ _ (-1024) [.int .i64 (-1024)] from rfl) (Reps.one (show Kd.M (Kd.int .i64) _ _ _ 1025 [.int .i64 1025] from rfl) (Reps.one (show Kd.M (Kd.int .i64) _ _ _ (-4611686018427387904) [.int .i64 (-4611686018427387904)] from rfl) (Reps.one (show Kd.M (Kd.int .i64) _ _ _ 0 [.int .i64 0] from rfl) (Reps.none _ _))))))); intro v441 w30 ho31 hb hg_ hnew_; clear hg_ hnew_; (first | rw [← Ny440.out] at ho31 | (simp only [Int.reduceToNat] at ho31; rw [← Ny440.out] at ho31)); have HO442 := xA (Kd.R_lower ho31 (keep_size (w := w) (g := g) (row := none) (xH2 GW420.out GW436.out HK.out))); replace BK420 := xkb BK420 hb; replace BK436 := xkb BK436 hb; replace HK := xA (KeepBut.trans (xH2 GW420.out GW436.out HK.out) (KeepBut.of_below hb g none) (.inl rfl)); replace HB := xA (below_step (xB3 (IsS129.ge HI0.out) GE420.out GE436.out HB.out) hb); replace HI0 := xA (IsS129.below (xJ129_12_2 NB0_420.out NB0_436.out HI0.out) hb); clear hb ho31; obtain ⟨Ao32, co32, eo32⟩ := Kd.R_slice HO442.out; subst eo32))
  refine bodyPost_ret (results_cell_row rfl _ _ gb420 62 #[.int .i64 t443, .int .i64 t421, .int .i64 t427, .int .i64 (wrap64 (2 + t430)), .bool t433] (0, 0) _ rfl (xPt1 NB420_436.out BK420.out) Try.underlying62 rfl (by kernel_rfl)) rfl ?_
  exact ⟨by first | rfl | (simp [errW_none, errW_some] <;> rfl) | (simp only [← hji5, ← hji8]; first | rfl | (simp [errW_none, errW_some] <;> rfl)) | (simp [*, errW_none, errW_some] <;> rfl), xJ129_12_2 NB0_420.out NB0_436.out HI0.out, xB3 (IsS129.ge HI0.out) GE420.out GE436.out HB.out, xH2 GW420.out GW436.out HK.out⟩
 ·skip
  try go_wp2_with (first | (refine xq rfl ?_; first | (refine xG (some 31) Try.func229 #[.pointer (some ⟨g, 0, none⟩), .int .i64 18] ?_; (with_reducible refine (spec_l1Cur_pick.calls g s0_0 t434 t435 18 t437 t438 t439 w0 _ ?side1 ?side2 A12.out).mono ?_); (case side1 => exact xJ129_12_2 NB0_420.out NB0_436.out HI0.out); (case side2 => exact xB3 (IsS129.ge HI0.out) GE420.out GE436.out HB.out); rintro e w55 ⟨rfl, hi, hb, hk⟩; refine ⟨_, rfl, ?_⟩; replace BK420 := xA (KeepBut.blk hk (xF1 NB420_436.out BK420.out) NB420_0.out (by simp)); replace BK436 := xA (KeepBut.blk hk (g' := gb436) (o := .cells #[.int .i64 (wrap64 ((wrap64 (t424 - (ji8))) - 1)), .int .i64 t421, .int .i64 t427, .int .i64 (wrap64 (2 + t430)), .bool t433] 62 (0, 0)) (xPt0 BK436.out) NB436_0.out (by simp)); replace HK := xA (KeepBut.trans (xH2 GW420.out GW436.out HK.out) hk (.inl rfl)); replace HB := xA (hb); replace HI0 := xA (hi); (try clear hb hk hi)) | (refine xG (some 42) Try.func228 #[.pointer (some ⟨g, 0, none⟩), .slice Ao58 y446.length co58] ?_; (with_reducible refine (spec_l1Cur_among.calls g s0_0 t438 t439 _ _ y446 t449 t450 t451 w0 _ ?side1 ?side2 ?side3 ?side4 ?side5 A40.out).mono ?_); (case side1 => exact xJ129_12_2 NB0_420.out NB0_436.out HI0.out); (case side2 => exact xB3 (IsS129.ge HI0.out) GE420.out GE436.out HB.out); (case side3 => exact xC ((Kd.R_reads' HO448.out).2.2)); (case side4 => exact (Kd.R_reads' HO448.out).2.1); (case side5 => exact far_slice (IsS129.own_ne HI0.out HO448.out (by decide))); rintro e w59 ⟨rfl, hi, hb, hk⟩; refine ⟨_, rfl, ?_⟩; replace BK420 := xkk hk BK420 NB420_0; replace BK436 := xkk hk BK436 NB436_0; replace HO448 := xA (Kd.R_mono (Kd.R_keep (IsS129.apart (show IsS129 w0 _ g s0_0 t438 t439 from xJ129_12_2 NB0_420.out NB0_436.out HI0.out) (xR HO448.out) (by decide)) hk (fun _ h => h.2)) (fun _ h => h.1)); replace HK := xA (KeepBut.trans (xH2 GW420.out GW436.out HK.out) hk (.inl rfl)); replace HB := xA (hb); replace HI0 := xA (hi); (try clear hb hk hi); have hnb60 := NB436_420.out; have hnc60 := NB420_436.out; have hnb61 := NB436_0.out; have hnc61 := NB0_436.out; replace hz436 := blk_cell BK436.out; replace hy436 := blk_frozen BK436.out; have hnb63 := NB420_0.out; have hnc63 := NB0_420.out; replace hz420 := blk_cell BK420.out; replace hy420 := blk_frozen BK420.out)) | ((with_reducible refine gate_dst (N := 41) rfl ?_); refine Kd.R_lit (Kd.int .i64) _ 3 ?hg (N := 41) ?hd (xs := ([10, 11, (-1), 64] : List Int)) (inner := [.int .i64 10, .int .i64 11, .int .i64 (-1), .int .i64 64]) (ok := fun _ => True) (okp := fun _ => True) ?hr ?hp (fun _ hk => hk) trivial (Below.refl _ _) (Nat.le_refl _) (by simp) ?_; (case hd => rfl); (case hg => rfl); (case hr => first | (go_simp; done) | (go_simp; rfl)); (case hp => exact (Reps.one (show Kd.M (Kd.int .i64) _ _ _ 10 [.int .i64 10] from rfl) (Reps.one (show Kd.M (Kd.int .i64) _ _ _ 11 [.int .i64 11] from rfl) (Reps.one (show Kd.M (Kd.int .i64) _ _ _ (-1) [.int .i64 (-1)] from rfl) (Reps.one (show Kd.M (Kd.int .i64) _ _ _ 64 [.int .i64 64] from rfl) (Reps.none _ _)))))); intro v447 w56 ho57 hb hg_ hnew_; clear hg_ hnew_; (first | rw [← Ny446.out] at ho57 | (simp only [Int.reduceToNat] at ho57; rw [← Ny446.out] at ho57)); have HO448 := xA (Kd.R_lower ho57 (keep_size (w := w) (g := g) (row := none) (xH2 GW420.out GW436.out HK.out))); replace BK420 := xkb BK420 hb; replace BK436 := xkb BK436 hb; replace HK := xA (KeepBut.trans (xH2 GW420.out GW436.out HK.out) (KeepBut.of_below hb g none) (.inl rfl)); replace HB := xA (below_step (xB3 (IsS129.ge HI0.out) GE420.out GE436.out HB.out) hb); replace HI0 := xA (IsS129.below (xJ129_12_2 NB0_420.out NB0_436.out HI0.out) hb); clear hb ho57; obtain ⟨Ao58, co58, eo58⟩ := Kd.R_slice HO448.out; subst eo58))
  refine bodyPost_ret (results_cell_row rfl _ _ gb420 62 #[.int .i64 (wrap64 ((wrap64 (t424 - (ji8))) - 1)), .int .i64 t449, .int .i64 t427, .int .i64 (wrap64 (2 + t430)), .bool t433] (0, 0) _ rfl (xPt1 NB420_436.out BK420.out) Try.underlying62 rfl (by kernel_rfl)) rfl ?_
  exact ⟨by first | rfl | (simp [errW_none, errW_some] <;> rfl) | (simp only [← hji5, ← hji8]; first | rfl | (simp [errW_none, errW_some] <;> rfl)) | (simp [*, errW_none, errW_some] <;> rfl), xJ129_12_2 NB0_420.out NB0_436.out HI0.out, xB3 (IsS129.ge HI0.out) GE420.out GE436.out HB.out, xH2 GW420.out GW436.out HK.out⟩
 ·skip
  try go_wp2_with (first | (refine xq rfl ?_; first | (refine xG (some 31) Try.func229 #[.pointer (some ⟨g, 0, none⟩), .int .i64 18] ?_; (with_reducible refine (spec_l1Cur_pick.calls g s0_0 t434 t435 18 t437 t438 t439 w0 _ ?side1 ?side2 A12.out).mono ?_); (case side1 => exact xJ129_12_2 NB0_420.out NB0_436.out HI0.out); (case side2 => exact xB3 (IsS129.ge HI0.out) GE420.out GE436.out HB.out); rintro e w81 ⟨rfl, hi, hb, hk⟩; refine ⟨_, rfl, ?_⟩; replace BK420 := xA (KeepBut.blk hk (xF1 NB420_436.out BK420.out) NB420_0.out (by simp)); replace BK436 := xA (KeepBut.blk hk (g' := gb436) (o := .cells #[.int .i64 (wrap64 ((wrap64 (t424 - (ji8))) - 1)), .int .i64 t421, .int .i64 t427, .int .i64 (wrap64 (2 + t430)), .bool t433] 62 (0, 0)) (xPt0 BK436.out) NB436_0.out (by simp)); replace HK := xA (KeepBut.trans (xH2 GW420.out GW436.out HK.out) hk (.inl rfl)); replace HB := xA (hb); replace HI0 := xA (hi); (try clear hb hk hi)) | (refine xG (some 48) Try.func228 #[.pointer (some ⟨g, 0, none⟩), .slice Ao84 y452.length co84] ?_; (with_reducible refine (spec_l1Cur_among.calls g s0_0 t438 t439 _ _ y452 t455 t456 t457 w0 _ ?side1 ?side2 ?side3 ?side4 ?side5 A66.out).mono ?_); (case side1 => exact xJ129_12_2 NB0_420.out NB0_436.out HI0.out); (case side2 => exact xB3 (IsS129.ge HI0.out) GE420.out GE436.out HB.out); (case side3 => exact xC ((Kd.R_reads' HO454.out).2.2)); (case side4 => exact (Kd.R_reads' HO454.out).2.1); (case side5 => exact far_slice (IsS129.own_ne HI0.out HO454.out (by decide))); rintro e w85 ⟨rfl, hi, hb, hk⟩; refine ⟨_, rfl, ?_⟩; replace BK420 := xkk hk BK420 NB420_0; replace BK436 := xkk hk BK436 NB436_0; replace HO454 := xA (Kd.R_mono (Kd.R_keep (IsS129.apart (show IsS129 w0 _ g s0_0 t438 t439 from xJ129_12_2 NB0_420.out NB0_436.out HI0.out) (xR HO454.out) (by decide)) hk (fun _ h => h.2)) (fun _ h => h.1)); replace HK := xA (KeepBut.trans (xH2 GW420.out GW436.out HK.out) hk (.inl rfl)); replace HB := xA (hb); replace HI0 := xA (hi); (try clear hb hk hi); have hnb86 := NB436_420.out; have hnc86 := NB420_436.out; have hnb87 := NB436_0.out; have hnc87 := NB0_436.out; replace hz436 := blk_cell BK436.out; replace hy436 := blk_frozen BK436.out; have hnb89 := NB420_0.out; have hnc89 := NB0_420.out; replace hz420 := blk_cell BK420.out; replace hy420 := blk_frozen BK420.out)) | ((with_reducible refine gate_dst (N := 47) rfl ?_); refine Kd.R_lit (Kd.int .i64) _ 3 ?hg (N := 47) ?hd (xs := ([3, (-1)] : List Int)) (inner := [.int .i64 3, .int .i64 (-1)]) (ok := fun _ => True) (okp := fun _ => True) ?hr ?hp (fun _ hk => hk) trivial (Below.refl _ _) (Nat.le_refl _) (by simp) ?_; (case hd => rfl); (case hg => rfl); (case hr => first | (go_simp; done) | (go_simp; rfl)); (case hp => exact (Reps.one (show Kd.M (Kd.int .i64) _ _ _ 3 [.int .i64 3] from rfl) (Reps.one (show Kd.M (Kd.int .i64) _ _ _ (-1) [.int .i64 (-1)] from rfl) (Reps.none _ _)))); intro v453 w82 ho83 hb hg_ hnew_; clear hg_ hnew_; (first | rw [← Ny452.out] at ho83 | (simp only [Int.reduceToNat] at ho83; rw [← Ny452.out] at ho83)); have HO454 := xA (Kd.R_lower ho83 (keep_size (w := w) (g := g) (row := none) (xH2 GW420.out GW436.out HK.out))); replace BK420 := xkb BK420 hb; replace BK436 := xkb BK436 hb; replace HK := xA (KeepBut.trans (xH2 GW420.out GW436.out HK.out) (KeepBut.of_below hb g none) (.inl rfl)); replace HB := xA (below_step (xB3 (IsS129.ge HI0.out) GE420.out GE436.out HB.out) hb); replace HI0 := xA (IsS129.below (xJ129_12_2 NB0_420.out NB0_436.out HI0.out) hb); clear hb ho83; obtain ⟨Ao84, co84, eo84⟩ := Kd.R_slice HO454.out; subst eo84))
  refine bodyPost_ret (results_cell_row rfl _ _ gb420 62 #[.int .i64 (wrap64 ((wrap64 (t424 - (ji8))) - 1)), .int .i64 t421, .int .i64 t455, .int .i64 (wrap64 (2 + t430)), .bool t433] (0, 0) _ rfl (xPt1 NB420_436.out BK420.out) Try.underlying62 rfl (by kernel_rfl)) rfl ?_
  exact ⟨by first | rfl | (simp [errW_none, errW_some] <;> rfl) | (simp only [← hji5, ← hji8]; first | rfl | (simp [errW_none, errW_some] <;> rfl)) | (simp [*, errW_none, errW_some] <;> rfl), xJ129_12_2 NB0_420.out NB0_436.out HI0.out, xB3 (IsS129.ge HI0.out) GE420.out GE436.out HB.out, xH2 GW420.out GW436.out HK.out⟩
end Go.Proofs.Ytjplcongellcmaa.PFnPairsRun
