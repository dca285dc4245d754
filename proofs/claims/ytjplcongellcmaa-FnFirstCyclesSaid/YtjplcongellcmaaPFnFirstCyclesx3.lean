/- What each Go function that the statement FnFirstCycles reaches answers, proved call by call. No condition beyond those that the theorems print. (Written by wip/tools/xprint.py of this repo, over the kit's print.) -/
import Derived.Test.YtjplcongellcmaaPFnFirstCyclesx0
import Derived.Test.YtjplcongellcmaaPFnFirstCyclesx2
namespace Go.Proofs.Ytjplcongellcmaa.PFnFirstCycles
open Go.RowKit Go.Proofs.YtjplcongellcmaaW.PrintWords Go.Proofs.YtjplcongellcmaaW.PrintLast Go.Proofs.YtjplcongellcmaaW.PrintMore
attribute [local go_sem] max2_int min2_int max_two min_two max_three min_three max_four min_four   -- for this text's walks alone
set_option linter.unusedVariables false
set_option linter.unusedSimpArgs false
def x3a0 : Array Bool := #[Zz,Zz,Zz,Zz,Zz,Zz,Zz,Zz,Zz,Zz,Zz,Zz,Zz,Zz,Zz,Zz,Zz,Zz,Zz,Zz,Zz,Zz,Zz]
def x3a1 : Array Bool := #[Yy,Zz,Zz,Zz,Zz,Zz,Zz,Zz,Zz,Zz,Zz,Zz,Zz,Zz,Zz,Zz,Zz,Zz,Zz,Zz,Zz,Zz,Zz]
def x3a2 : Array Bool := #[Yy,Yy,Zz,Zz,Zz,Zz,Zz,Zz,Zz,Zz,Zz,Zz,Zz,Zz,Zz,Zz,Zz,Zz,Zz,Zz,Zz,Zz,Zz]
def x3a3 : Array Bool := #[Yy,Yy,Yy,Zz,Zz,Zz,Zz,Zz,Zz,Zz,Zz,Zz,Zz,Zz,Zz,Zz,Zz,Zz,Zz,Zz,Zz,Zz,Zz]
def x3a4 : Array Bool := #[Yy,Yy,Yy,Yy,Zz,Zz,Zz,Zz,Zz,Zz,Zz,Zz,Zz,Zz,Zz,Zz,Zz,Zz,Zz,Zz,Zz,Zz,Zz]
def x3a5 : Array Bool := #[Yy,Yy,Yy,Yy,Zz,Yy,Zz,Zz,Zz,Zz,Zz,Zz,Zz,Zz,Zz,Zz,Zz,Zz,Zz,Zz,Zz,Zz,Zz]
def x3a6 : Array Bool := #[Yy,Yy,Yy,Yy,Zz,Yy,Yy,Zz,Zz,Zz,Zz,Zz,Zz,Zz,Zz,Zz,Zz,Zz,Zz,Zz,Zz,Zz,Zz]
def x3a7 : Array Bool := #[Yy,Yy,Yy,Yy,Zz,Yy,Yy,Zz,Zz,Yy,Zz,Zz,Zz,Zz,Zz,Zz,Zz,Zz,Zz,Zz,Zz,Zz,Zz]
def x3a8 : Array Bool := #[Yy,Yy,Yy,Yy,Zz,Yy,Yy,Zz,Zz,Yy,Yy,Zz,Zz,Zz,Zz,Zz,Zz,Zz,Zz,Zz,Zz,Zz,Zz]
def x3a9 : Array Bool := #[Yy,Yy,Yy,Yy,Zz,Yy,Yy,Zz,Zz,Yy,Yy,Zz,Yy,Zz,Zz,Zz,Zz,Zz,Zz,Zz,Zz,Zz,Zz]
def x3a10 : Array Bool := #[Yy,Yy,Yy,Yy,Zz,Yy,Yy,Zz,Zz,Yy,Yy,Zz,Yy,Yy,Zz,Zz,Zz,Zz,Zz,Zz,Zz,Zz,Zz]
def x3a11 : Array Bool := #[Yy,Yy,Yy,Yy,Zz,Yy,Yy,Zz,Zz,Yy,Yy,Zz,Yy,Yy,Yy,Zz,Zz,Zz,Zz,Zz,Zz,Zz,Zz]
def x3a12 : Array Bool := #[Yy,Yy,Yy,Yy,Zz,Yy,Yy,Zz,Zz,Yy,Yy,Zz,Yy,Yy,Yy,Zz,Zz,Yy,Zz,Zz,Zz,Zz,Zz]
def x3a13 : Array Bool := #[Yy,Yy,Yy,Yy,Yy,Yy,Yy,Yy,Yy,Yy,Yy,Yy,Yy,Yy,Yy,Yy,Yy,Yy,Yy,Yy,Yy,Yy,Zz]
def x3a14 : Array Bool := #[Yy,Yy,Yy,Yy,Yy,Yy,Yy,Yy,Yy,Yy,Yy,Yy,Yy,Yy,Yy,Yy,Yy,Yy,Yy,Yy,Yy,Zz,Zz]
def x3a15 : Array Bool := #[Yy,Yy,Yy,Yy,Yy,Yy,Yy,Yy,Yy,Yy,Yy,Yy,Yy,Yy,Yy,Yy,Yy,Yy,Zz,Zz,Zz,Yy,Zz]
def x3a16 : Array Bool := #[Yy,Yy,Yy,Yy,Yy,Yy,Yy,Yy,Yy,Yy,Yy,Yy,Yy,Yy,Yy,Yy,Yy,Yy,Zz,Zz,Zz,Zz,Zz]
def x3a17 : Array Bool := #[Yy,Yy,Yy,Yy,Yy,Yy,Yy,Yy,Yy,Yy,Yy,Yy,Yy,Yy,Yy,Zz,Zz,Yy,Zz,Zz,Zz,Yy,Zz]
def x3a18 : Array Bool := #[Yy,Yy,Yy,Yy,Yy,Yy,Yy,Yy,Yy,Yy,Yy,Yy,Yy,Yy,Yy,Zz,Zz,Yy,Zz,Zz,Zz,Zz,Zz]
def x3a19 : Array Bool := #[Yy,Yy,Yy,Yy,Yy,Yy,Yy,Yy,Yy,Yy,Yy,Zz,Yy,Yy,Yy,Zz,Zz,Yy,Zz,Zz,Zz,Yy,Zz]
def x3a20 : Array Bool := #[Yy,Yy,Yy,Yy,Yy,Yy,Yy,Yy,Yy,Yy,Yy,Zz,Yy,Yy,Yy,Zz,Zz,Yy,Zz,Zz,Zz,Zz,Zz]
def x3a21 : Array Bool := #[Yy,Yy,Yy,Yy,Zz,Yy,Yy,Zz,Zz,Yy,Yy,Zz,Yy,Yy,Yy,Zz,Zz,Yy,Zz,Zz,Zz,Yy,Zz]
def x3a22 : Array Bool := #[Yy,Yy,Yy,Yy,Yy,Yy,Yy,Zz,Zz,Yy,Yy,Zz,Yy,Yy,Yy,Zz,Zz,Yy,Zz,Zz,Zz,Zz,Zz]
def x3a23 : Array Bool := #[Yy,Yy,Yy,Yy,Yy,Yy,Yy,Yy,Zz,Yy,Yy,Zz,Yy,Yy,Yy,Zz,Zz,Yy,Zz,Zz,Zz,Zz,Zz]
def x3a24 : Array Bool := #[Yy,Yy,Yy,Yy,Yy,Yy,Yy,Zz,Zz,Yy,Yy,Zz,Yy,Yy,Yy,Zz,Zz,Yy,Zz,Zz,Zz,Yy,Zz]
def x3a25 : Array Bool := #[Yy,Yy,Yy,Yy,Yy,Yy,Yy,Yy,Zz,Yy,Yy,Zz,Yy,Yy,Yy,Zz,Zz,Yy,Zz,Zz,Zz,Yy,Zz]
def x3a26 : Array Bool := #[Yy,Yy,Yy,Yy,Yy,Yy,Yy,Yy,Yy,Yy,Yy,Yy,Yy,Yy,Yy,Yy,Zz,Yy,Zz,Zz,Zz,Zz,Zz]
def x3a27 : Array Bool := #[Yy,Yy,Yy,Yy,Yy,Yy,Yy,Yy,Yy,Yy,Yy,Yy,Yy,Yy,Yy,Yy,Zz,Yy,Zz,Zz,Zz,Yy,Zz]
def x3a28 : Array Bool := #[Yy,Yy,Yy,Yy,Yy,Yy,Yy,Yy,Yy,Yy,Yy,Yy,Yy,Yy,Yy,Yy,Yy,Yy,Yy,Zz,Zz,Zz,Zz]
def x3a29 : Array Bool := #[Yy,Yy,Yy,Yy,Yy,Yy,Yy,Yy,Yy,Yy,Yy,Yy,Yy,Yy,Yy,Yy,Yy,Yy,Yy,Yy,Zz,Zz,Zz]
def x3a30 : Array Bool := #[Yy,Yy,Yy,Yy,Yy,Yy,Yy,Yy,Yy,Yy,Yy,Yy,Yy,Yy,Yy,Yy,Yy,Yy,Yy,Zz,Zz,Yy,Zz]
def x3a31 : Array Bool := #[Yy,Yy,Yy,Yy,Yy,Yy,Yy,Yy,Yy,Yy,Yy,Yy,Yy,Yy,Yy,Yy,Yy,Yy,Yy,Yy,Zz,Yy,Zz]
def x3a32 : Array Bool := #[Yy,Yy,Yy,Yy,Yy,Yy,Yy,Yy,Yy,Yy,Yy,Yy,Yy,Yy,Yy,Yy,Yy,Yy,Yy,Yy,Yy,Yy,Yy]

/-! ### spec_l1Cur_first: function 281 -/
def spec_l1Cur_first.f (s0_0 : List Int) (s0_1 : Int) (s0_2 : Int) (a1 : Int) : Option (Int × Int × Int × Int × Bool × Int × Int) := (spec_l1Cur_pick.f s0_0 s0_1 s0_2 5).bind fun bt168 => (if 0 ≤ bt168.1 then ((spec_l1Cur_pick.f s0_0 bt168.2.1 bt168.2.2 (wrap64 ((shl .i64 2 bt168.1) + 3))).bind fun bt171 => ((spec_l1Cur_pick.f s0_0 bt171.2.1 bt171.2.2 3).bind fun bt174 => ((spec_l1Cur_pick.f s0_0 bt174.2.1 bt174.2.2 (wrap64 (a1 - 1))).bind fun bt177 => ((spec_l1Cur_one.f s0_0 bt177.2.1 bt177.2.2 2).bind fun bt180 => ((spec_l1Cur_pick.f s0_0 bt180.2.1 bt180.2.2 18).bind fun bt184 => (if bt184.1 = 0 then ((spec_l1Cur_among.f s0_0 bt184.2.1 bt184.2.2 (([1024, (-1024), 1025, (-4611686018427387904), 0] : List Int))).bind fun bt190 => (some (bt190.1, bt168.1, bt174.1, wrap64 (2 + bt177.1), bt180.1, bt190.2.1, bt190.2.2))) else (if bt184.1 = 1 then ((spec_l1Cur_among.f s0_0 bt184.2.1 bt184.2.2 (([10, 11, (-1), 64] : List Int))).bind fun bt196 => (some (wrap64 ((wrap64 (bt171.1 - (shl .i64 1 bt168.1))) - 1), bt196.1, bt174.1, wrap64 (2 + bt177.1), bt180.1, bt196.2.1, bt196.2.2))) else (if bt184.1 = 2 then ((spec_l1Cur_among.f s0_0 bt184.2.1 bt184.2.2 (([3, (-1)] : List Int))).bind fun bt202 => (some (wrap64 ((wrap64 (bt171.1 - (shl .i64 1 bt168.1))) - 1), bt168.1, bt202.1, wrap64 (2 + bt177.1), bt180.1, bt202.2.1, bt202.2.2))) else (if bt184.1 = 3 then ((spec_l1Cur_word.f s0_0 bt184.2.1 bt184.2.2).bind fun bt205 => (some (wrap64 ((wrap64 (bt171.1 - (shl .i64 1 bt168.1))) - 1), bt168.1, bt174.1, bt205.1, bt205.2.1, bt205.2.2.1, bt205.2.2.2))) else (some (wrap64 ((wrap64 (bt171.1 - (shl .i64 1 bt168.1))) - 1), bt168.1, bt174.1, wrap64 (2 + bt177.1), bt180.1, bt184.2.1, bt184.2.2))))))))))) else (none))
def spec_l1Cur_first.T2 : Bool × List (List Nat × List Nat) := (true, [([], []), ([], []), ([1], [1]), ([2], [2]), ([0, 3], [0, 3]), ([], []), ([5], [5]), ([4, 6], [4, 6]), ([7], [7]), ([], []), ([], []), ([10, 4], [10]), ([], []), ([], []), ([13], [13]), ([12, 14, 11], [12, 14]), ([15], [15]), ([], []), ([17, 15], [17]), ([16, 18], [16, 18]), ([8, 9, 11, 19], [8, 9, 11, 19]), ([], []), ([21, 20, 18, 0, 1, 2, 3, 4, 5, 6, 7, 8, 9, 10, 11, 12, 13, 14, 15, 16, 17, 18, 19, 20, 21], [20, 21])])
def spec_l1Cur_first.B2 : List Nat := [0, 0, 2, 6, 15, 0, 32, 127, 255, 0, 0, 1055, 0, 0, 8192, 31775, 64543, 0, 195615, 523295, 1048575, 0, 4194303]
theorem spec_l1Cur_first.tab2 : rtab .any (opsOf Try.f281 2) = spec_l1Cur_first.T2 := by kernel_rfl
theorem spec_l1Cur_first.bits2 : waitsOk spec_l1Cur_first.T2.2 spec_l1Cur_first.B2 = true := by kernel_rfl
set_option maxHeartbeats 200000000 in
set_option maxRecDepth 100000 in
theorem spec_l1Cur_first.calls (g : Nat) (s0_0 : List Int) (s0_1 : Int) (s0_2 : Int) (a1 : Int) (r1 : Int) (r2 : Int) (r3 : Int) (r4 : Int) (r5 : Bool) (r6 : Int) (r7 : Int) (w0 w : World) (hI : IsS129 w0 w g s0_0 s0_1 s0_2) (hB : Below w0.heap.size w0 w) (h : spec_l1Cur_first.f s0_0 s0_1 s0_2 a1 = some (r1, r2, r3, r4, r5, r6, r7)) :
  Calls Try.prog 281 #[.pointer (some ⟨g, 0, none⟩), .int .i64 a1] w fun e w' => e = .returned (.agg #[.int .i64 r1, .int .i64 r2, .int .i64 r3, .int .i64 r4, .bool r5]) ∧ IsS129 w0 w' g s0_0 r6 r7 ∧ Below w0.heap.size w0 w' ∧ KeepBut w w' g none := by
 have hu62 := Try.underlying62
 have hu46 := Try.underlying46
 have HI0 := xA hI
 have HK := xA (KeepBut.refl w g none)
 have HL := xA hB.size
 clear hI
 have HW0 := xA hB.size
 have HB := xA hB
 clear hB
 have H : ((spec_l1Cur_pick.f s0_0 s0_1 s0_2 5).bind fun bt168 => (if 0 ≤ bt168.1 then ((spec_l1Cur_pick.f s0_0 bt168.2.1 bt168.2.2 (wrap64 ((shl .i64 2 bt168.1) + 3))).bind fun bt171 => ((spec_l1Cur_pick.f s0_0 bt171.2.1 bt171.2.2 3).bind fun bt174 => ((spec_l1Cur_pick.f s0_0 bt174.2.1 bt174.2.2 (wrap64 (a1 - 1))).bind fun bt177 => ((spec_l1Cur_one.f s0_0 bt177.2.1 bt177.2.2 2).bind fun bt180 => ((spec_l1Cur_pick.f s0_0 bt180.2.1 bt180.2.2 18).bind fun bt184 => (if bt184.1 = 0 then ((spec_l1Cur_among.f s0_0 bt184.2.1 bt184.2.2 (([1024, (-1024), 1025, (-4611686018427387904), 0] : List Int))).bind fun bt190 => (some (bt190.1, bt168.1, bt174.1, wrap64 (2 + bt177.1), bt180.1, bt190.2.1, bt190.2.2))) else (if bt184.1 = 1 then ((spec_l1Cur_among.f s0_0 bt184.2.1 bt184.2.2 (([10, 11, (-1), 64] : List Int))).bind fun bt196 => (some (wrap64 ((wrap64 (bt171.1 - (shl .i64 1 bt168.1))) - 1), bt196.1, bt174.1, wrap64 (2 + bt177.1), bt180.1, bt196.2.1, bt196.2.2))) else (if bt184.1 = 2 then ((spec_l1Cur_among.f s0_0 bt184.2.1 bt184.2.2 (([3, (-1)] : List Int))).bind fun bt202 => (some (wrap64 ((wrap64 (bt171.1 - (shl .i64 1 bt168.1))) - 1), bt168.1, bt202.1, wrap64 (2 + bt177.1), bt180.1, bt202.2.1, bt202.2.2))) else (if bt184.1 = 3 then ((spec_l1Cur_word.f s0_0 bt184.2.1 bt184.2.2).bind fun bt205 => (some (wrap64 ((wrap64 (bt171.1 - (shl .i64 1 bt168.1))) - 1), bt168.1, bt174.1, bt205.1, bt205.2.1, bt205.2.2.1, bt205.2.2.2))) else (some (wrap64 ((wrap64 (bt171.1 - (shl .i64 1 bt168.1))) - 1), bt168.1, bt174.1, wrap64 (2 + bt177.1), bt180.1, bt184.2.1, bt184.2.2))))))))))) else (none))) = some (r1, r2, r3, r4, r5, r6, r7) := h
 clear h
 replace H := Option.bind_eq_some_iff.mp H
 obtain ⟨⟨t168, t169, t170⟩, A30, H⟩ := H
 (try dsimp only at H)
 have A3 := xA A30
 clear A30
 by_cases c4 : 0 ≤ t168
 rotate_left
 ·rw [if_neg c4] at H
  exact absurd H (by simp)

 rw [if_pos c4] at H
 have c4b0 := eq_true c4
 have c4b1 : decide (0 ≤ t168) = true := decide_eq_true c4
 clear c4
 obtain ⟨ji5, hji5⟩ : ∃ j_ : Int, (shl .i64 2 t168) = j_ := ⟨_, rfl⟩
 (first | rw [hji5] at H | simp only [hji5] at H)
 (try rw [hji5] at A3)
 obtain ⟨hji5_, hji5z, hji5y, hji5x⟩ := xSh hji5
 replace H := Option.bind_eq_some_iff.mp H
 obtain ⟨⟨t171, t172, t173⟩, A60, H⟩ := H
 (try dsimp only at H)
 have A6 := xA A60
 clear A60
 have c7b0 := eq_true (of_decide_eq_true (by first | (with_reducible assumption) | assumption) : 0 ≤ t168)
 obtain ⟨ji8, hji8⟩ : ∃ j_ : Int, (shl .i64 1 t168) = j_ := ⟨_, rfl⟩
 (first | rw [hji8] at H | simp only [hji8] at H)
 (try rw [hji8] at A3)
 (try rw [hji8] at A6)
 have hji8_ : (IntKind.i64.wrap (1 * 2 ^ min t168.toNat 64)) = ji8 := hji8
 have hji8z : t168 ≤ 64 → (IntKind.i64.wrap (1 * 2 ^ t168.toNat)) = ji8 := shl_small hji8
 have hji8u : (IntKind.i64.wrap (2 ^ min t168.toNat 64)) = ji8 := by have h_ := hji8_; rw [Int.one_mul] at h_; exact h_
 have hji8v : t168 ≤ 64 → (IntKind.i64.wrap (2 ^ t168.toNat)) = ji8 := fun hle_ => by have h_ := hji8z hle_; rw [Int.one_mul] at h_; exact h_
 have hji8y : (wrap64 (1 * 2 ^ min t168.toNat 64)) = ji8 := (i64_w _).symm.trans hji8_
 have hji8x : t168 ≤ 64 → (wrap64 (1 * 2 ^ t168.toNat)) = ji8 := fun h_ => (i64_w _).symm.trans (hji8z h_)
 replace H := Option.bind_eq_some_iff.mp H
 obtain ⟨⟨t174, t175, t176⟩, A90, H⟩ := H
 (try dsimp only at H)
 have A9 := xA A90
 clear A90
 replace H := Option.bind_eq_some_iff.mp H
 obtain ⟨⟨t177, t178, t179⟩, A100, H⟩ := H
 (try dsimp only at H)
 have A10 := xA A100
 clear A100
 replace H := Option.bind_eq_some_iff.mp H
 obtain ⟨⟨t180, t181, t182⟩, A110, H⟩ := H
 (try dsimp only at H)
 have A11 := xA A110
 clear A110
 replace H := Option.bind_eq_some_iff.mp H
 obtain ⟨⟨t184, t185, t186⟩, A120, H⟩ := H
 (try dsimp only at H)
 have A12 := xA A120
 clear A120
 by_cases c13 : t184 = 0
 rw [if_pos c13] at H
 have c13b0 : (t184 == 0) = true := beq_iff_eq.mpr c13
 have c13b1 : (t184 != 0) = false := bne_eq_false_iff_eq.mpr c13
 clear c13
 obtain ⟨y187, hy187⟩ : ∃ y_ : List Int, y_ = (([1024, (-1024), 1025, (-4611686018427387904), 0] : List Int)) := ⟨_, rfl⟩
 replace H : ((spec_l1Cur_among.f s0_0 t185 t186 y187).bind fun bt190 => (some (bt190.1, t168, t174, wrap64 (2 + t177), t180, bt190.2.1, bt190.2.2))) = some (r1, r2, r3, r4, r5, r6, r7) := by first | (rw [hy187]; with_reducible exact H) | (have H2_ := (Option.bind_some _ _).symm.trans H; rw [hy187]; with_reducible exact H2_) | (have H2_ := (Option.bind_some _ _).symm.trans H; with_reducible exact H2_) | with_reducible exact H | (rw [hy187]; exact H) | exact H
 have Ny187 := xA hy187
 clear hy187
 replace H := Option.bind_eq_some_iff.mp H
 obtain ⟨⟨t190, t191, t192⟩, A140, H⟩ := H
 (try dsimp only at H)
 have A14 := xA A140
 clear A140
 simp only [Option.some.injEq, Prod.mk.injEq] at H
 obtain ⟨rfl, rfl, rfl, rfl, rfl, rfl, rfl⟩ := H
 rotate_left
 rw [if_neg c13] at H
 have c13b0 : (t184 == 0) = false := beq_eq_false_iff_ne.mpr c13
 have c13b1 : (t184 != 0) = true := bne_iff_ne.mpr c13
 by_cases c39 : t184 = 1
 rw [if_pos c39] at H
 have c39b0 : (t184 == 1) = true := beq_iff_eq.mpr c39
 have c39b1 : (t184 != 1) = false := bne_eq_false_iff_eq.mpr c39
 clear c39
 obtain ⟨y193, hy193⟩ : ∃ y_ : List Int, y_ = (([10, 11, (-1), 64] : List Int)) := ⟨_, rfl⟩
 replace H : ((spec_l1Cur_among.f s0_0 t185 t186 y193).bind fun bt196 => (some (wrap64 ((wrap64 (t171 - (ji8))) - 1), bt196.1, t174, wrap64 (2 + t177), t180, bt196.2.1, bt196.2.2))) = some (r1, r2, r3, r4, r5, r6, r7) := by first | (rw [hy193]; with_reducible exact H) | (have H2_ := (Option.bind_some _ _).symm.trans H; rw [hy193]; with_reducible exact H2_) | (have H2_ := (Option.bind_some _ _).symm.trans H; with_reducible exact H2_) | with_reducible exact H | (rw [hy193]; exact H) | exact H
 have Ny193 := xA hy193
 clear hy193
 replace H := Option.bind_eq_some_iff.mp H
 obtain ⟨⟨t196, t197, t198⟩, A400, H⟩ := H
 (try dsimp only at H)
 have A40 := xA A400
 clear A400
 simp only [Option.some.injEq, Prod.mk.injEq] at H
 obtain ⟨rfl, rfl, rfl, rfl, rfl, rfl, rfl⟩ := H
 rotate_left
 rw [if_neg c39] at H
 have c39b0 : (t184 == 1) = false := beq_eq_false_iff_ne.mpr c39
 have c39b1 : (t184 != 1) = true := bne_iff_ne.mpr c39
 by_cases c65 : t184 = 2
 rw [if_pos c65] at H
 have c65b0 : (t184 == 2) = true := beq_iff_eq.mpr c65
 have c65b1 : (t184 != 2) = false := bne_eq_false_iff_eq.mpr c65
 clear c65
 obtain ⟨y199, hy199⟩ : ∃ y_ : List Int, y_ = (([3, (-1)] : List Int)) := ⟨_, rfl⟩
 replace H : ((spec_l1Cur_among.f s0_0 t185 t186 y199).bind fun bt202 => (some (wrap64 ((wrap64 (t171 - (ji8))) - 1), t168, bt202.1, wrap64 (2 + t177), t180, bt202.2.1, bt202.2.2))) = some (r1, r2, r3, r4, r5, r6, r7) := by first | (rw [hy199]; with_reducible exact H) | (have H2_ := (Option.bind_some _ _).symm.trans H; rw [hy199]; with_reducible exact H2_) | (have H2_ := (Option.bind_some _ _).symm.trans H; with_reducible exact H2_) | with_reducible exact H | (rw [hy199]; exact H) | exact H
 have Ny199 := xA hy199
 clear hy199
 replace H := Option.bind_eq_some_iff.mp H
 obtain ⟨⟨t202, t203, t204⟩, A660, H⟩ := H
 (try dsimp only at H)
 have A66 := xA A660
 clear A660
 simp only [Option.some.injEq, Prod.mk.injEq] at H
 obtain ⟨rfl, rfl, rfl, rfl, rfl, rfl, rfl⟩ := H
 rotate_left
 rw [if_neg c65] at H
 have c65b0 : (t184 == 2) = false := beq_eq_false_iff_ne.mpr c65
 have c65b1 : (t184 != 2) = true := bne_iff_ne.mpr c65
 by_cases c91 : t184 = 3
 rotate_left
 rw [if_neg c91] at H
 have c91b0 : (t184 == 3) = false := beq_eq_false_iff_ne.mpr c91
 have c91b1 : (t184 != 3) = true := bne_iff_ne.mpr c91
 simp only [Option.some.injEq, Prod.mk.injEq] at H
 obtain ⟨rfl, rfl, rfl, rfl, rfl, rfl, rfl⟩ := H
 rotate_left 4
 rw [if_pos c91] at H
 have c91b0 : (t184 == 3) = true := beq_iff_eq.mpr c91
 have c91b1 : (t184 != 3) = false := bne_eq_false_iff_eq.mpr c91
 clear c91
 replace H := Option.bind_eq_some_iff.mp H
 obtain ⟨⟨t205, t206, t207, t208⟩, A920, H⟩ := H
 (try dsimp only at H)
 have A92 := xA A920
 clear A920
 simp only [Option.some.injEq, Prod.mk.injEq] at H
 obtain ⟨rfl, rfl, rfl, rfl, rfl, rfl, rfl⟩ := H
 all_goals
  go_enter Try.func281, Try.ntmps281
  try go_wp2_with (first | (refine xg 4 rfl ?_; refine xV 4 #[.int .i64 0, .int .i64 0, .int .i64 0, .int .i64 0, .bool false] 62 ?_; intro gb167 hg w15 hbox hb; replace HB := xA (below_step (xB1 (IsS129.ge HI0.out) HB.out) hb); have BK167 := xA (hbox); have GW167 := xA ((by rw [hg]; exact (keep_size (w := w) (g := g) (row := none) (xH0 HK.out)) : w.heap.size ≤ gb167)); have GE167 := xA ((Nat.le_trans HW0.out (by rw [hg]; exact (keep_size (w := w) (g := g) (row := none) (xH0 HK.out)) : w.heap.size ≤ gb167) : w0.heap.size ≤ gb167)); replace HK := xA (KeepBut.trans (xH0 HK.out) (KeepBut.of_below hb g none) (.inl rfl)); have NB0_167 := xA ((by rw [hg]; exact Nat.ne_of_lt (IsS129.lt (show IsS129 w0 _ g s0_0 s0_1 s0_2 from xJ129_12_0 HI0.out)) : g ≠ gb167)); have NB167_0 := xA ((by rw [hg]; exact Nat.ne_of_gt (IsS129.lt (show IsS129 w0 _ g s0_0 s0_1 s0_2 from xJ129_12_0 HI0.out)) : gb167 ≠ g)); replace HI0 := xA (IsS129.below (xJ129_12_0 HI0.out) hb); clear hb hbox hg) | (refine xG (some 8) Try.func229 #[.pointer (some ⟨g, 0, none⟩), .int .i64 5] ?_; (with_reducible refine (spec_l1Cur_pick.calls g s0_0 s0_1 s0_2 5 t168 t169 t170 w0 _ ?side1 ?side2 A3.out).mono ?_); (case side1 => exact xJ129_12_1 NB0_167.out HI0.out); (case side2 => exact xB2 (IsS129.ge HI0.out) GE167.out HB.out); rintro e w16 ⟨rfl, hi, hb, hk⟩; refine ⟨_, rfl, ?_⟩; replace BK167 := xkk hk BK167 NB167_0; replace HK := xA (KeepBut.trans (xH1 GW167.out HK.out) hk (.inl rfl)); replace HB := xA (hb); replace HI0 := xA (hi); (try clear hb hk hi)))
  replace BK167 := xA (blk_drew BK167.out)
  replace HI0 := xA (IsS129.drew HI0.out)
  replace HK := xA (keep_drew HK.out)
  replace HB := xA (below_drew1 HB.out)
  refine start_ (n := 23) (S := fun w' => True) (ds := []) x3a0 (by kernel_rfl) rfl rfl trivial (fun hHeld => ?_); refine with_tabW spec_l1Cur_first.tab2 spec_l1Cur_first.bits2 (fun HT_ HW_ => ?_)
  generalize w16.drew = w17 at BK167 HI0 HK HB hHeld ⊢
  refine xP 0 9 x3a1 ?_
  refine xP 1 10 x3a2 ?_
  refine xP 2 11 x3a3 ?_
  refine xP 3 12 x3a4 ?_
  refine xP 5 14 x3a5 ?_
  refine xP 6 15 x3a6 ?_
  refine xP 9 18 x3a7 ?_
  refine xP 10 19 x3a8 ?_
  refine xP 12 21 x3a9 ?_
  refine xP 13 22 x3a10 ?_
  refine xP 14 23 x3a11 ?_
  refine xP 17 26 x3a12 ?_
  refine join_ (σ := Nat) 1 x3a13 (fun s_ => [(13, .int .i64 t171), (20, .int .i64 t174), (24, .int .i64 t177), (27, .bool t180), (6, .pointer (some ⟨s_, 0, none⟩)), (16, .int .i64 (wrap64 (t171 - (ji8)))), (17, .int .i64 (wrap64 ((wrap64 (t171 - (ji8))) - 1))), (25, .int .i64 (wrap64 (2 + t177))), (28, .agg #[.int .i64 (wrap64 (2 + t177)), .bool t180]), (29, .agg #[.int .i64 (wrap64 ((wrap64 (t171 - (ji8))) - 1)), .int .i64 t168, .int .i64 t174, .int .i64 (wrap64 (2 + t177)), .bool t180])]) (fun s_ w' => (w'.heap[gb167]? = some (.cells #[.int .i64 0, .int .i64 0, .int .i64 0, .int .i64 0, .bool false] 62 (0, 0))) ∧ (w'.heap[s_]? = some (.cells #[.int .i64 0, .int .i64 0, .int .i64 0, .int .i64 0, .bool false] 62 (0, 0))) ∧ (w.heap.size ≤ s_) ∧ (w0.heap.size ≤ s_) ∧ (g ≠ s_) ∧ (s_ ≠ g) ∧ (gb167 ≠ s_) ∧ (s_ ≠ gb167) ∧ (IsS129 w0 w' g s0_0 t181 t182) ∧ (KeepBut w w' g none) ∧ (Below w0.heap.size w0 w')) ?_ ?_
  rotate_left
  ·intro hJ4_11_15_18_21
   refine join_ (σ := Unit) 2 x3a14 (fun s_ => [(13, .int .i64 t171), (20, .int .i64 t174), (24, .int .i64 t177), (27, .bool t180), (16, .int .i64 (wrap64 (t171 - (ji8)))), (17, .int .i64 (wrap64 ((wrap64 (t171 - (ji8))) - 1))), (25, .int .i64 (wrap64 (2 + t177))), (28, .agg #[.int .i64 (wrap64 (2 + t177)), .bool t180]), (29, .agg #[.int .i64 (wrap64 ((wrap64 (t171 - (ji8))) - 1)), .int .i64 t168, .int .i64 t174, .int .i64 (wrap64 (2 + t177)), .bool t180])]) (fun s_ w' => (w'.heap[gb167]? = some (.cells #[.int .i64 0, .int .i64 0, .int .i64 0, .int .i64 0, .bool false] 62 (0, 0))) ∧ (IsS129 w0 w' g s0_0 t181 t182) ∧ (KeepBut w w' g none) ∧ (Below w0.heap.size w0 w')) ?_ ?_
   rotate_left
   ·intro hJ4_11_15_18
    refine join_ (σ := Nat) 4 x3a15 (fun s_ => [(13, .int .i64 t171), (20, .int .i64 t174), (24, .int .i64 t177), (6, .pointer (some ⟨s_, 0, none⟩)), (16, .int .i64 (wrap64 (t171 - (ji8)))), (17, .int .i64 (wrap64 ((wrap64 (t171 - (ji8))) - 1))), (25, .int .i64 (wrap64 (2 + t177)))]) (fun s_ w' => (w'.heap[gb167]? = some (.cells #[.int .i64 0, .int .i64 0, .int .i64 0, .int .i64 0, .bool false] 62 (0, 0))) ∧ (w'.heap[s_]? = some (.cells #[.int .i64 0, .int .i64 0, .int .i64 0, .int .i64 0, .bool false] 62 (0, 0))) ∧ (w.heap.size ≤ s_) ∧ (w0.heap.size ≤ s_) ∧ (g ≠ s_) ∧ (s_ ≠ g) ∧ (gb167 ≠ s_) ∧ (s_ ≠ gb167) ∧ (IsS129 w0 w' g s0_0 t178 t179) ∧ (KeepBut w w' g none) ∧ (Below w0.heap.size w0 w')) ?_ ?_
    rotate_left
    ·intro hJ4_11_15_21
     refine join_ (σ := Unit) 5 x3a16 (fun s_ => [(13, .int .i64 t171), (20, .int .i64 t174), (24, .int .i64 t177), (16, .int .i64 (wrap64 (t171 - (ji8)))), (17, .int .i64 (wrap64 ((wrap64 (t171 - (ji8))) - 1))), (25, .int .i64 (wrap64 (2 + t177)))]) (fun s_ w' => (w'.heap[gb167]? = some (.cells #[.int .i64 0, .int .i64 0, .int .i64 0, .int .i64 0, .bool false] 62 (0, 0))) ∧ (IsS129 w0 w' g s0_0 t178 t179) ∧ (KeepBut w w' g none) ∧ (Below w0.heap.size w0 w')) ?_ ?_
     rotate_left
     ·intro hJ4_11_15
      refine join_ (σ := Nat) 6 x3a17 (fun s_ => [(13, .int .i64 t171), (20, .int .i64 t174), (6, .pointer (some ⟨s_, 0, none⟩)), (16, .int .i64 (wrap64 (t171 - (ji8)))), (17, .int .i64 (wrap64 ((wrap64 (t171 - (ji8))) - 1)))]) (fun s_ w' => (w'.heap[gb167]? = some (.cells #[.int .i64 0, .int .i64 0, .int .i64 0, .int .i64 0, .bool false] 62 (0, 0))) ∧ (w'.heap[s_]? = some (.cells #[.int .i64 0, .int .i64 0, .int .i64 0, .int .i64 0, .bool false] 62 (0, 0))) ∧ (w.heap.size ≤ s_) ∧ (w0.heap.size ≤ s_) ∧ (g ≠ s_) ∧ (s_ ≠ g) ∧ (gb167 ≠ s_) ∧ (s_ ≠ gb167) ∧ (IsS129 w0 w' g s0_0 t175 t176) ∧ (KeepBut w w' g none) ∧ (Below w0.heap.size w0 w')) ?_ ?_
      rotate_left
      ·intro hJ4_11_21
       refine join_ (σ := Unit) 7 x3a18 (fun s_ => [(13, .int .i64 t171), (20, .int .i64 t174), (16, .int .i64 (wrap64 (t171 - (ji8)))), (17, .int .i64 (wrap64 ((wrap64 (t171 - (ji8))) - 1)))]) (fun s_ w' => (w'.heap[gb167]? = some (.cells #[.int .i64 0, .int .i64 0, .int .i64 0, .int .i64 0, .bool false] 62 (0, 0))) ∧ (IsS129 w0 w' g s0_0 t175 t176) ∧ (KeepBut w w' g none) ∧ (Below w0.heap.size w0 w')) ?_ ?_
       rotate_left
       ·intro hJ4_11
        refine join_ (σ := Nat) 7 x3a19 (fun s_ => [(13, .int .i64 t171), (6, .pointer (some ⟨s_, 0, none⟩)), (16, .int .i64 (wrap64 (t171 - (ji8)))), (17, .int .i64 (wrap64 ((wrap64 (t171 - (ji8))) - 1)))]) (fun s_ w' => (w'.heap[gb167]? = some (.cells #[.int .i64 0, .int .i64 0, .int .i64 0, .int .i64 0, .bool false] 62 (0, 0))) ∧ (w'.heap[s_]? = some (.cells #[.int .i64 0, .int .i64 0, .int .i64 0, .int .i64 0, .bool false] 62 (0, 0))) ∧ (w.heap.size ≤ s_) ∧ (w0.heap.size ≤ s_) ∧ (g ≠ s_) ∧ (s_ ≠ g) ∧ (gb167 ≠ s_) ∧ (s_ ≠ gb167) ∧ (IsS129 w0 w' g s0_0 t172 t173) ∧ (KeepBut w w' g none) ∧ (Below w0.heap.size w0 w')) ?_ ?_
        rotate_left
        ·intro hJ4_21
         refine join_ (σ := Unit) 8 x3a20 (fun s_ => [(13, .int .i64 t171), (16, .int .i64 (wrap64 (t171 - (ji8)))), (17, .int .i64 (wrap64 ((wrap64 (t171 - (ji8))) - 1)))]) (fun s_ w' => (w'.heap[gb167]? = some (.cells #[.int .i64 0, .int .i64 0, .int .i64 0, .int .i64 0, .bool false] 62 (0, 0))) ∧ (IsS129 w0 w' g s0_0 t172 t173) ∧ (KeepBut w w' g none) ∧ (Below w0.heap.size w0 w')) ?_ ?_
         rotate_left
         ·intro hJ4
          refine join_ (σ := Nat) 10 x3a21 (fun s_ => [(6, .pointer (some ⟨s_, 0, none⟩))]) (fun s_ w' => (w'.heap[gb167]? = some (.cells #[.int .i64 0, .int .i64 0, .int .i64 0, .int .i64 0, .bool false] 62 (0, 0))) ∧ (w'.heap[s_]? = some (.cells #[.int .i64 0, .int .i64 0, .int .i64 0, .int .i64 0, .bool false] 62 (0, 0))) ∧ (w.heap.size ≤ s_) ∧ (w0.heap.size ≤ s_) ∧ (g ≠ s_) ∧ (s_ ≠ g) ∧ (gb167 ≠ s_) ∧ (s_ ≠ gb167) ∧ (IsS129 w0 w' g s0_0 t169 t170) ∧ (KeepBut w w' g none) ∧ (Below w0.heap.size w0 w')) ?_ ?_
          rotate_left
          ·intro hJ21
           refine xW 4 21 13 6 x3a22 x3a21 (fun K hK => ?_) (fun K hK => ?_)
           ·skip
            refine xY1 hji5 Try.func229 #[.pointer (some ⟨g, 0, none⟩), .int .i64 (wrap64 ((ji5) + 3))] ?_
            with_reducible refine (spec_l1Cur_pick.calls g s0_0 t169 t170 (wrap64 ((ji5) + 3)) t171 t172 t173 w0 _ ?side1 ?side2 A6.out).mono ?_
            (case side1 => exact xJ129_12_1 NB0_167.out HI0.out)
            (case side2 => exact xB2 (IsS129.ge HI0.out) GE167.out HB.out)
            rintro e w18 ⟨rfl, hi, hb, hk⟩
            refine ⟨_, rfl, ?_⟩
            replace BK167 := xkk hk BK167 NB167_0
            replace HK := xA (KeepBut.trans (xH1 GW167.out HK.out) hk (.inl rfl))
            replace HB := xA (hb)
            replace HI0 := xA (hi)
            (try clear hb); (try clear hb2); (try clear hk); (try clear hi)
            refine hK.out _ _ trivial (fun hHeld => ?_)
            clear hK K
            refine xN ?_
            refine xP 7 16 x3a23 ?_
            refine xP 8 17 x3a20 ?_
            exact xNJ (hJ4 () _ ⟨(xK BK167.out), (xJ129_12_1 NB0_167.out HI0.out), (xH1 GW167.out HK.out), (xB2 (IsS129.ge HI0.out) GE167.out HB.out)⟩)
           ·skip
            refine box_step ?hg (N := 6) ?hd (cs := #[.int .i64 0, .int .i64 0, .int .i64 0, .int .i64 0, .bool false]) (t := 62) ?hr ?_; (case hd => rfl); (case hg => rfl); (case hr => first | (go_simp; done) | (go_simp; rfl))
            intro gb183 hg w18 hbox hb
            replace HB := xA (below_step (xB2 (IsS129.ge HI0.out) GE167.out HB.out) hb)
            have BK183 := xA (hbox)
            have GW183 := xA ((by rw [hg]; exact (keep_size (w := w) (g := g) (row := none) (xH1 GW167.out HK.out)) : w.heap.size ≤ gb183))
            have GE183 := xA ((Nat.le_trans HW0.out (by rw [hg]; exact (keep_size (w := w) (g := g) (row := none) (xH1 GW167.out HK.out)) : w.heap.size ≤ gb183) : w0.heap.size ≤ gb183))
            replace HK := xA (KeepBut.trans (xH1 GW167.out HK.out) (KeepBut.of_below hb g none) (.inl rfl))
            have NB167_183 := xnl hg BK167
            have NB183_167 := xng hg BK167
            replace BK167 := xkb BK167 hb
            have NB0_183 := xA ((by rw [hg]; exact Nat.ne_of_lt (IsS129.lt (show IsS129 w0 _ g s0_0 t169 t170 from xJ129_12_1 NB0_167.out HI0.out)) : g ≠ gb183))
            have NB183_0 := xA ((by rw [hg]; exact Nat.ne_of_gt (IsS129.lt (show IsS129 w0 _ g s0_0 t169 t170 from xJ129_12_1 NB0_167.out HI0.out)) : gb183 ≠ g))
            replace HI0 := xA (IsS129.below (xJ129_12_1 NB0_167.out HI0.out) hb)
            clear hb hbox hg
            refine hK.out _ _ trivial (fun hHeld => ?_)
            clear hK K
            refine xN ?_
            exact xNJ (hJ21 (gb183) _ ⟨(xK BK167.out), (xK BK183.out), GW183.out, GE183.out, NB0_183.out, NB183_0.out, NB167_183.out, NB183_167.out, (xJ129_12_2 NB0_167.out NB0_183.out HI0.out), (xH2 GW167.out GW183.out HK.out), (xB3 (IsS129.ge HI0.out) GE167.out GE183.out HB.out)⟩)
          ·skip
           rintro gb183 w19 ⟨h0_, h1_, h2_, h3_, h4_, h5_, h6_, h7_, h8_, h9_, h10_⟩
           replace BK167 := xA h0_
           have BK183 := xA h1_
           have GW183 := xA h2_
           have GE183 := xA h3_
           have NB0_183 := xA h4_
           have NB183_0 := xA h5_
           have NB167_183 := xA h6_
           have NB183_167 := xA h7_
           replace HI0 := xA h8_
           replace HK := xA h9_
           replace HB := xA h10_
           clear h0_ h1_ h2_ h3_ h4_ h5_ h6_ h7_ h8_ h9_ h10_
           have hHeld := trivial
           refine xNp ?_
           refine xU 4 13 x3a24 (fun K hK => ?_)
           refine xY1 hji5 Try.func229 #[.pointer (some ⟨g, 0, none⟩), .int .i64 (wrap64 ((ji5) + 3))] ?_
           with_reducible refine (spec_l1Cur_pick.calls g s0_0 t169 t170 (wrap64 ((ji5) + 3)) t171 t172 t173 w0 _ ?side1 ?side2 A6.out).mono ?_
           (case side1 => exact xJ129_12_2 NB0_167.out NB0_183.out HI0.out)
           (case side2 => exact xB3 (IsS129.ge HI0.out) GE167.out GE183.out HB.out)
           rintro e w20 ⟨rfl, hi, hb, hk⟩
           refine ⟨_, rfl, ?_⟩
           replace BK167 := xkk hk BK167 NB167_0
           replace BK183 := xkk hk BK183 NB183_0
           replace HK := xA (KeepBut.trans (xH2 GW167.out GW183.out HK.out) hk (.inl rfl))
           replace HB := xA (hb)
           replace HI0 := xA (hi)
           (try clear hb); (try clear hb2); (try clear hk); (try clear hi)
           refine hK.out _ _ trivial (fun hHeld => ?_)
           clear hK K
           refine xN ?_
           refine xP 7 16 x3a25 ?_
           refine xP 8 17 x3a19 ?_
           exact xNJ (hJ4_21 (gb183) _ ⟨(xK BK167.out), (xK BK183.out), GW183.out, GE183.out, NB0_183.out, NB183_0.out, NB167_183.out, NB183_167.out, (xJ129_12_2 NB0_167.out NB0_183.out HI0.out), (xH2 GW167.out GW183.out HK.out), (xB3 (IsS129.ge HI0.out) GE167.out GE183.out HB.out)⟩)
         ·skip
          rintro _ w19 ⟨h0_, h1_, h2_, h3_⟩
          replace BK167 := xA h0_
          replace HI0 := xA h1_
          replace HK := xA h2_
          replace HB := xA h3_
          clear h0_ h1_ h2_ h3_
          have hHeld := trivial
          refine xNp ?_
          refine xW 11 21 20 6 x3a18 x3a19 (fun K hK => ?_) (fun K hK => ?_)
          ·skip
           refine xY Try.func229 #[.pointer (some ⟨g, 0, none⟩), .int .i64 3] ?_
           with_reducible refine (spec_l1Cur_pick.calls g s0_0 t172 t173 3 t174 t175 t176 w0 _ ?side1 ?side2 A9.out).mono ?_
           (case side1 => exact xJ129_12_1 NB0_167.out HI0.out)
           (case side2 => exact xB2 (IsS129.ge HI0.out) GE167.out HB.out)
           rintro e w20 ⟨rfl, hi, hb, hk⟩
           refine ⟨_, rfl, ?_⟩
           replace BK167 := xkk hk BK167 NB167_0
           replace HK := xA (KeepBut.trans (xH1 GW167.out HK.out) hk (.inl rfl))
           replace HB := xA (hb)
           replace HI0 := xA (hi)
           (try clear hb); (try clear hb2); (try clear hk); (try clear hi)
           refine hK.out _ _ trivial (fun hHeld => ?_)
           clear hK K
           refine xN ?_
           exact xNJ (hJ4_11 () _ ⟨(xK BK167.out), (xJ129_12_1 NB0_167.out HI0.out), (xH1 GW167.out HK.out), (xB2 (IsS129.ge HI0.out) GE167.out HB.out)⟩)
          ·skip
           refine box_step ?hg (N := 6) ?hd (cs := #[.int .i64 0, .int .i64 0, .int .i64 0, .int .i64 0, .bool false]) (t := 62) ?hr ?_; (case hd => rfl); (case hg => rfl); (case hr => first | (go_simp; done) | (go_simp; rfl))
           intro gb183 hg w20 hbox hb
           replace HB := xA (below_step (xB2 (IsS129.ge HI0.out) GE167.out HB.out) hb)
           have BK183 := xA (hbox)
           have GW183 := xA ((by rw [hg]; exact (keep_size (w := w) (g := g) (row := none) (xH1 GW167.out HK.out)) : w.heap.size ≤ gb183))
           have GE183 := xA ((Nat.le_trans HW0.out (by rw [hg]; exact (keep_size (w := w) (g := g) (row := none) (xH1 GW167.out HK.out)) : w.heap.size ≤ gb183) : w0.heap.size ≤ gb183))
           replace HK := xA (KeepBut.trans (xH1 GW167.out HK.out) (KeepBut.of_below hb g none) (.inl rfl))
           have NB167_183 := xnl hg BK167
           have NB183_167 := xng hg BK167
           replace BK167 := xkb BK167 hb
           have NB0_183 := xA ((by rw [hg]; exact Nat.ne_of_lt (IsS129.lt (show IsS129 w0 _ g s0_0 t172 t173 from xJ129_12_1 NB0_167.out HI0.out)) : g ≠ gb183))
           have NB183_0 := xA ((by rw [hg]; exact Nat.ne_of_gt (IsS129.lt (show IsS129 w0 _ g s0_0 t172 t173 from xJ129_12_1 NB0_167.out HI0.out)) : gb183 ≠ g))
           replace HI0 := xA (IsS129.below (xJ129_12_1 NB0_167.out HI0.out) hb)
           clear hb hbox hg
           refine hK.out _ _ trivial (fun hHeld => ?_)
           clear hK K
           refine xN ?_
           exact xNJ (hJ4_21 (gb183) _ ⟨(xK BK167.out), (xK BK183.out), GW183.out, GE183.out, NB0_183.out, NB183_0.out, NB167_183.out, NB183_167.out, (xJ129_12_2 NB0_167.out NB0_183.out HI0.out), (xH2 GW167.out GW183.out HK.out), (xB3 (IsS129.ge HI0.out) GE167.out GE183.out HB.out)⟩)
        ·skip
         rintro gb183 w20 ⟨h0_, h1_, h2_, h3_, h4_, h5_, h6_, h7_, h8_, h9_, h10_⟩
         replace BK167 := xA h0_
         have BK183 := xA h1_
         have GW183 := xA h2_
         have GE183 := xA h3_
         have NB0_183 := xA h4_
         have NB183_0 := xA h5_
         have NB167_183 := xA h6_
         have NB183_167 := xA h7_
         replace HI0 := xA h8_
         replace HK := xA h9_
         replace HB := xA h10_
         clear h0_ h1_ h2_ h3_ h4_ h5_ h6_ h7_ h8_ h9_ h10_
         have hHeld := trivial
         refine xNp ?_
         refine xU 11 20 x3a17 (fun K hK => ?_)
         refine xY Try.func229 #[.pointer (some ⟨g, 0, none⟩), .int .i64 3] ?_
         with_reducible refine (spec_l1Cur_pick.calls g s0_0 t172 t173 3 t174 t175 t176 w0 _ ?side1 ?side2 A9.out).mono ?_
         (case side1 => exact xJ129_12_2 NB0_167.out NB0_183.out HI0.out)
         (case side2 => exact xB3 (IsS129.ge HI0.out) GE167.out GE183.out HB.out)
         rintro e w21 ⟨rfl, hi, hb, hk⟩
         refine ⟨_, rfl, ?_⟩
         replace BK167 := xkk hk BK167 NB167_0
         replace BK183 := xkk hk BK183 NB183_0
         replace HK := xA (KeepBut.trans (xH2 GW167.out GW183.out HK.out) hk (.inl rfl))
         replace HB := xA (hb)
         replace HI0 := xA (hi)
         (try clear hb); (try clear hb2); (try clear hk); (try clear hi)
         refine hK.out _ _ trivial (fun hHeld => ?_)
         clear hK K
         refine xN ?_
         exact xNJ (hJ4_11_21 (gb183) _ ⟨(xK BK167.out), (xK BK183.out), GW183.out, GE183.out, NB0_183.out, NB183_0.out, NB167_183.out, NB183_167.out, (xJ129_12_2 NB0_167.out NB0_183.out HI0.out), (xH2 GW167.out GW183.out HK.out), (xB3 (IsS129.ge HI0.out) GE167.out GE183.out HB.out)⟩)
       ·skip
        rintro _ w20 ⟨h0_, h1_, h2_, h3_⟩
        replace BK167 := xA h0_
        replace HI0 := xA h1_
        replace HK := xA h2_
        replace HB := xA h3_
        clear h0_ h1_ h2_ h3_
        have hHeld := trivial
        refine xNp ?_
        refine xW 15 21 24 6 x3a26 x3a17 (fun K hK => ?_) (fun K hK => ?_)
        ·skip
         refine xY Try.func229 #[.pointer (some ⟨g, 0, none⟩), .int .i64 (wrap64 (a1 - 1))] ?_
         with_reducible refine (spec_l1Cur_pick.calls g s0_0 t175 t176 (wrap64 (a1 - 1)) t177 t178 t179 w0 _ ?side1 ?side2 A10.out).mono ?_
         (case side1 => exact xJ129_12_1 NB0_167.out HI0.out)
         (case side2 => exact xB2 (IsS129.ge HI0.out) GE167.out HB.out)
         rintro e w21 ⟨rfl, hi, hb, hk⟩
         refine ⟨_, rfl, ?_⟩
         replace BK167 := xkk hk BK167 NB167_0
         replace HK := xA (KeepBut.trans (xH1 GW167.out HK.out) hk (.inl rfl))
         replace HB := xA (hb)
         replace HI0 := xA (hi)
         (try clear hb); (try clear hb2); (try clear hk); (try clear hi)
         refine hK.out _ _ trivial (fun hHeld => ?_)
         clear hK K
         refine xN ?_
         refine xP 16 25 x3a16 ?_
         exact xNJ (hJ4_11_15 () _ ⟨(xK BK167.out), (xJ129_12_1 NB0_167.out HI0.out), (xH1 GW167.out HK.out), (xB2 (IsS129.ge HI0.out) GE167.out HB.out)⟩)
        ·skip
         refine box_step ?hg (N := 6) ?hd (cs := #[.int .i64 0, .int .i64 0, .int .i64 0, .int .i64 0, .bool false]) (t := 62) ?hr ?_; (case hd => rfl); (case hg => rfl); (case hr => first | (go_simp; done) | (go_simp; rfl))
         intro gb183 hg w21 hbox hb
         replace HB := xA (below_step (xB2 (IsS129.ge HI0.out) GE167.out HB.out) hb)
         have BK183 := xA (hbox)
         have GW183 := xA ((by rw [hg]; exact (keep_size (w := w) (g := g) (row := none) (xH1 GW167.out HK.out)) : w.heap.size ≤ gb183))
         have GE183 := xA ((Nat.le_trans HW0.out (by rw [hg]; exact (keep_size (w := w) (g := g) (row := none) (xH1 GW167.out HK.out)) : w.heap.size ≤ gb183) : w0.heap.size ≤ gb183))
         replace HK := xA (KeepBut.trans (xH1 GW167.out HK.out) (KeepBut.of_below hb g none) (.inl rfl))
         have NB167_183 := xnl hg BK167
         have NB183_167 := xng hg BK167
         replace BK167 := xkb BK167 hb
         have NB0_183 := xA ((by rw [hg]; exact Nat.ne_of_lt (IsS129.lt (show IsS129 w0 _ g s0_0 t175 t176 from xJ129_12_1 NB0_167.out HI0.out)) : g ≠ gb183))
         have NB183_0 := xA ((by rw [hg]; exact Nat.ne_of_gt (IsS129.lt (show IsS129 w0 _ g s0_0 t175 t176 from xJ129_12_1 NB0_167.out HI0.out)) : gb183 ≠ g))
         replace HI0 := xA (IsS129.below (xJ129_12_1 NB0_167.out HI0.out) hb)
         clear hb hbox hg
         refine hK.out _ _ trivial (fun hHeld => ?_)
         clear hK K
         refine xN ?_
         exact xNJ (hJ4_11_21 (gb183) _ ⟨(xK BK167.out), (xK BK183.out), GW183.out, GE183.out, NB0_183.out, NB183_0.out, NB167_183.out, NB183_167.out, (xJ129_12_2 NB0_167.out NB0_183.out HI0.out), (xH2 GW167.out GW183.out HK.out), (xB3 (IsS129.ge HI0.out) GE167.out GE183.out HB.out)⟩)
      ·skip
       rintro gb183 w21 ⟨h0_, h1_, h2_, h3_, h4_, h5_, h6_, h7_, h8_, h9_, h10_⟩
       replace BK167 := xA h0_
       have BK183 := xA h1_
       have GW183 := xA h2_
       have GE183 := xA h3_
       have NB0_183 := xA h4_
       have NB183_0 := xA h5_
       have NB167_183 := xA h6_
       have NB183_167 := xA h7_
       replace HI0 := xA h8_
       replace HK := xA h9_
       replace HB := xA h10_
       clear h0_ h1_ h2_ h3_ h4_ h5_ h6_ h7_ h8_ h9_ h10_
       have hHeld := trivial
       refine xNp ?_
       refine xU 15 24 x3a27 (fun K hK => ?_)
       refine xY Try.func229 #[.pointer (some ⟨g, 0, none⟩), .int .i64 (wrap64 (a1 - 1))] ?_
       with_reducible refine (spec_l1Cur_pick.calls g s0_0 t175 t176 (wrap64 (a1 - 1)) t177 t178 t179 w0 _ ?side1 ?side2 A10.out).mono ?_
       (case side1 => exact xJ129_12_2 NB0_167.out NB0_183.out HI0.out)
       (case side2 => exact xB3 (IsS129.ge HI0.out) GE167.out GE183.out HB.out)
       rintro e w22 ⟨rfl, hi, hb, hk⟩
       refine ⟨_, rfl, ?_⟩
       replace BK167 := xkk hk BK167 NB167_0
       replace BK183 := xkk hk BK183 NB183_0
       replace HK := xA (KeepBut.trans (xH2 GW167.out GW183.out HK.out) hk (.inl rfl))
       replace HB := xA (hb)
       replace HI0 := xA (hi)
       (try clear hb); (try clear hb2); (try clear hk); (try clear hi)
       refine hK.out _ _ trivial (fun hHeld => ?_)
       clear hK K
       refine xN ?_
       refine xP 16 25 x3a15 ?_
       exact xNJ (hJ4_11_15_21 (gb183) _ ⟨(xK BK167.out), (xK BK183.out), GW183.out, GE183.out, NB0_183.out, NB183_0.out, NB167_183.out, NB183_167.out, (xJ129_12_2 NB0_167.out NB0_183.out HI0.out), (xH2 GW167.out GW183.out HK.out), (xB3 (IsS129.ge HI0.out) GE167.out GE183.out HB.out)⟩)
     ·skip
      rintro _ w21 ⟨h0_, h1_, h2_, h3_⟩
      replace BK167 := xA h0_
      replace HI0 := xA h1_
      replace HK := xA h2_
      replace HB := xA h3_
      clear h0_ h1_ h2_ h3_
      have hHeld := trivial
      refine xNp ?_
      refine xW 18 21 27 6 x3a28 x3a15 (fun K hK => ?_) (fun K hK => ?_)
      ·skip
       refine xY Try.func227 #[.pointer (some ⟨g, 0, none⟩), .int .i64 2] ?_
       with_reducible refine (spec_l1Cur_one.calls g s0_0 t178 t179 2 t180 t181 t182 w0 _ ?side1 ?side2 A11.out).mono ?_
       (case side1 => exact xJ129_12_1 NB0_167.out HI0.out)
       (case side2 => exact xB2 (IsS129.ge HI0.out) GE167.out HB.out)
       rintro e w22 ⟨rfl, hi, hb, hk⟩
       refine ⟨_, rfl, ?_⟩
       replace BK167 := xkk hk BK167 NB167_0
       replace HK := xA (KeepBut.trans (xH1 GW167.out HK.out) hk (.inl rfl))
       replace HB := xA (hb)
       replace HI0 := xA (hi)
       (try clear hb); (try clear hb2); (try clear hk); (try clear hi)
       refine hK.out _ _ trivial (fun hHeld => ?_)
       clear hK K
       refine xN ?_
       refine xP 19 28 x3a29 ?_
       refine xP 20 29 x3a14 ?_
       exact xNJ (hJ4_11_15_18 () _ ⟨(xK BK167.out), (xJ129_12_1 NB0_167.out HI0.out), (xH1 GW167.out HK.out), (xB2 (IsS129.ge HI0.out) GE167.out HB.out)⟩)
      ·skip
       refine box_step ?hg (N := 6) ?hd (cs := #[.int .i64 0, .int .i64 0, .int .i64 0, .int .i64 0, .bool false]) (t := 62) ?hr ?_; (case hd => rfl); (case hg => rfl); (case hr => first | (go_simp; done) | (go_simp; rfl))
       intro gb183 hg w22 hbox hb
       replace HB := xA (below_step (xB2 (IsS129.ge HI0.out) GE167.out HB.out) hb)
       have BK183 := xA (hbox)
       have GW183 := xA ((by rw [hg]; exact (keep_size (w := w) (g := g) (row := none) (xH1 GW167.out HK.out)) : w.heap.size ≤ gb183))
       have GE183 := xA ((Nat.le_trans HW0.out (by rw [hg]; exact (keep_size (w := w) (g := g) (row := none) (xH1 GW167.out HK.out)) : w.heap.size ≤ gb183) : w0.heap.size ≤ gb183))
       replace HK := xA (KeepBut.trans (xH1 GW167.out HK.out) (KeepBut.of_below hb g none) (.inl rfl))
       have NB167_183 := xnl hg BK167
       have NB183_167 := xng hg BK167
       replace BK167 := xkb BK167 hb
       have NB0_183 := xA ((by rw [hg]; exact Nat.ne_of_lt (IsS129.lt (show IsS129 w0 _ g s0_0 t178 t179 from xJ129_12_1 NB0_167.out HI0.out)) : g ≠ gb183))
       have NB183_0 := xA ((by rw [hg]; exact Nat.ne_of_gt (IsS129.lt (show IsS129 w0 _ g s0_0 t178 t179 from xJ129_12_1 NB0_167.out HI0.out)) : gb183 ≠ g))
       replace HI0 := xA (IsS129.below (xJ129_12_1 NB0_167.out HI0.out) hb)
       clear hb hbox hg
       refine hK.out _ _ trivial (fun hHeld => ?_)
       clear hK K
       refine xN ?_
       exact xNJ (hJ4_11_15_21 (gb183) _ ⟨(xK BK167.out), (xK BK183.out), GW183.out, GE183.out, NB0_183.out, NB183_0.out, NB167_183.out, NB183_167.out, (xJ129_12_2 NB0_167.out NB0_183.out HI0.out), (xH2 GW167.out GW183.out HK.out), (xB3 (IsS129.ge HI0.out) GE167.out GE183.out HB.out)⟩)
    ·skip
     rintro gb183 w22 ⟨h0_, h1_, h2_, h3_, h4_, h5_, h6_, h7_, h8_, h9_, h10_⟩
     replace BK167 := xA h0_
     have BK183 := xA h1_
     have GW183 := xA h2_
     have GE183 := xA h3_
     have NB0_183 := xA h4_
     have NB183_0 := xA h5_
     have NB167_183 := xA h6_
     have NB183_167 := xA h7_
     replace HI0 := xA h8_
     replace HK := xA h9_
     replace HB := xA h10_
     clear h0_ h1_ h2_ h3_ h4_ h5_ h6_ h7_ h8_ h9_ h10_
     have hHeld := trivial
     refine xNp ?_
     refine xU 18 27 x3a30 (fun K hK => ?_)
     refine xY Try.func227 #[.pointer (some ⟨g, 0, none⟩), .int .i64 2] ?_
     with_reducible refine (spec_l1Cur_one.calls g s0_0 t178 t179 2 t180 t181 t182 w0 _ ?side1 ?side2 A11.out).mono ?_
     (case side1 => exact xJ129_12_2 NB0_167.out NB0_183.out HI0.out)
     (case side2 => exact xB3 (IsS129.ge HI0.out) GE167.out GE183.out HB.out)
     rintro e w23 ⟨rfl, hi, hb, hk⟩
     refine ⟨_, rfl, ?_⟩
     replace BK167 := xkk hk BK167 NB167_0
     replace BK183 := xkk hk BK183 NB183_0
     replace HK := xA (KeepBut.trans (xH2 GW167.out GW183.out HK.out) hk (.inl rfl))
     replace HB := xA (hb)
     replace HI0 := xA (hi)
     (try clear hb); (try clear hb2); (try clear hk); (try clear hi)
     refine hK.out _ _ trivial (fun hHeld => ?_)
     clear hK K
     refine xN ?_
     refine xP 19 28 x3a31 ?_
     refine xP 20 29 x3a13 ?_
     exact xNJ (hJ4_11_15_18_21 (gb183) _ ⟨(xK BK167.out), (xK BK183.out), GW183.out, GE183.out, NB0_183.out, NB183_0.out, NB167_183.out, NB183_167.out, (xJ129_12_2 NB0_167.out NB0_183.out HI0.out), (xH2 GW167.out GW183.out HK.out), (xB3 (IsS129.ge HI0.out) GE167.out GE183.out HB.out)⟩)
   ·skip
    rintro _ w22 ⟨h0_, h1_, h2_, h3_⟩
    replace BK167 := xA h0_
    replace HI0 := xA h1_
    replace HK := xA h2_
    replace HB := xA h3_
    clear h0_ h1_ h2_ h3_
    have hHeld := trivial
    refine xNp ?_
    refine xU 21 6 x3a13 (fun K hK => ?_)
    refine box_step ?hg (N := 6) ?hd (cs := #[.int .i64 0, .int .i64 0, .int .i64 0, .int .i64 0, .bool false]) (t := 62) ?hr ?_; (case hd => rfl); (case hg => rfl); (case hr => first | (go_simp; done) | (go_simp; rfl))
    intro gb183 hg w23 hbox hb
    replace HB := xA (below_step (xB2 (IsS129.ge HI0.out) GE167.out HB.out) hb)
    have BK183 := xA (hbox)
    have GW183 := xA ((by rw [hg]; exact (keep_size (w := w) (g := g) (row := none) (xH1 GW167.out HK.out)) : w.heap.size ≤ gb183))
    have GE183 := xA ((Nat.le_trans HW0.out (by rw [hg]; exact (keep_size (w := w) (g := g) (row := none) (xH1 GW167.out HK.out)) : w.heap.size ≤ gb183) : w0.heap.size ≤ gb183))
    replace HK := xA (KeepBut.trans (xH1 GW167.out HK.out) (KeepBut.of_below hb g none) (.inl rfl))
    have NB167_183 := xnl hg BK167
    have NB183_167 := xng hg BK167
    replace BK167 := xkb BK167 hb
    have NB0_183 := xA ((by rw [hg]; exact Nat.ne_of_lt (IsS129.lt (show IsS129 w0 _ g s0_0 t181 t182 from xJ129_12_1 NB0_167.out HI0.out)) : g ≠ gb183))
    have NB183_0 := xA ((by rw [hg]; exact Nat.ne_of_gt (IsS129.lt (show IsS129 w0 _ g s0_0 t181 t182 from xJ129_12_1 NB0_167.out HI0.out)) : gb183 ≠ g))
    replace HI0 := xA (IsS129.below (xJ129_12_1 NB0_167.out HI0.out) hb)
    clear hb hbox hg
    refine hK.out _ _ trivial (fun hHeld => ?_)
    clear hK K
    refine xN ?_
    exact xNJ (hJ4_11_15_18_21 (gb183) _ ⟨(xK BK167.out), (xK BK183.out), GW183.out, GE183.out, NB0_183.out, NB183_0.out, NB167_183.out, NB183_167.out, (xJ129_12_2 NB0_167.out NB0_183.out HI0.out), (xH2 GW167.out GW183.out HK.out), (xB3 (IsS129.ge HI0.out) GE167.out GE183.out HB.out)⟩)
  rintro gb183 w23 ⟨h0_, h1_, h2_, h3_, h4_, h5_, h6_, h7_, h8_, h9_, h10_⟩
  replace BK167 := xA h0_
  have BK183 := xA h1_
  have GW183 := xA h2_
  have GE183 := xA h3_
  have NB0_183 := xA h4_
  have NB183_0 := xA h5_
  have NB167_183 := xA h6_
  have NB183_167 := xA h7_
  replace HI0 := xA h8_
  replace HK := xA h9_
  replace HB := xA h10_
  clear h0_ h1_ h2_ h3_ h4_ h5_ h6_ h7_ h8_ h9_ h10_
  have hHeld := trivial
  refine xNp ?_
  refine one_ (i := 22) (N := none) x3a32 rfl rfl (one_of HT_.out (by kernel_rfl)) (by decide) (fun K hK => ?_)
  have hs24 : w23.cell? ⟨gb183, 0, none⟩ = some (.int .i64 0) := (blk_cell BK183.out 0).trans rfl
  have hfs24 := blk_frozen BK183.out 0
  have hns24_0 := NB167_183.out
  have hms24_0 := NB183_167.out
  have hs25 : w23.cell? ⟨gb183, 1, none⟩ = some (.int .i64 0) := (blk_cell BK183.out 1).trans rfl
  have hfs25 := blk_frozen BK183.out 1
  have hns25_0 := NB167_183.out
  have hms25_0 := NB183_167.out
  have hs26 : w23.cell? ⟨gb183, 2, none⟩ = some (.int .i64 0) := (blk_cell BK183.out 2).trans rfl
  have hfs26 := blk_frozen BK183.out 2
  have hns26_0 := NB167_183.out
  have hms26_0 := NB183_167.out
  have hs27 : w23.cell? ⟨gb183, 3, none⟩ = some (.int .i64 0) := (blk_cell BK183.out 3).trans rfl
  have hfs27 := blk_frozen BK183.out 3
  have hns27_0 := NB167_183.out
  have hms27_0 := NB183_167.out
  have hs28 : w23.cell? ⟨gb183, 4, none⟩ = some (.bool false) := (blk_cell BK183.out 4).trans rfl
  have hfs28 := blk_frozen BK183.out 4
  have hns28_0 := NB167_183.out
  have hms28_0 := NB183_167.out
  refine skip_ (w1 := ?_) (by rfl) rfl ?_ ?_
  rotate_left
  ·go_simp
   rfl
  refine hK.out _ _ trivial (fun hHeld => ?_)
  clear hK K
  refine xDn ?_
 ·skip
  try go_wp2_with (first | (refine xq rfl ?_; first | (refine xG (some 31) Try.func229 #[.pointer (some ⟨g, 0, none⟩), .int .i64 18] ?_; (with_reducible refine (spec_l1Cur_pick.calls g s0_0 t181 t182 18 t184 t185 t186 w0 _ ?side1 ?side2 A12.out).mono ?_); (case side1 => exact xJ129_12_2 NB0_167.out NB0_183.out HI0.out); (case side2 => exact xB3 (IsS129.ge HI0.out) GE167.out GE183.out HB.out); rintro e w107 ⟨rfl, hi, hb, hk⟩; refine ⟨_, rfl, ?_⟩; replace BK167 := xA (KeepBut.blk hk (xF1 NB167_183.out BK167.out) NB167_0.out (by simp)); replace BK183 := xA (KeepBut.blk hk (g' := gb183) (o := .cells #[.int .i64 (wrap64 ((wrap64 (t171 - (ji8))) - 1)), .int .i64 t168, .int .i64 t174, .int .i64 (wrap64 (2 + t177)), .bool t180] 62 (0, 0)) (xPt0 BK183.out) NB183_0.out (by simp)); replace HK := xA (KeepBut.trans (xH2 GW167.out GW183.out HK.out) hk (.inl rfl)); replace HB := xA (hb); replace HI0 := xA (hi); (try clear hb hk hi)) | (refine xG (some 53) Try.func265 #[.pointer (some ⟨g, 0, none⟩)] ?_; (with_reducible refine (spec_l1Cur_word.calls g s0_0 t185 t186 t205 t206 t207 t208 w0 _ ?side1 ?side2 A92.out).mono ?_); (case side1 => exact xJ129_12_2 NB0_167.out NB0_183.out HI0.out); (case side2 => exact xB3 (IsS129.ge HI0.out) GE167.out GE183.out HB.out); rintro e w108 ⟨rfl, hi, hb, hk⟩; refine ⟨_, rfl, ?_⟩; replace BK167 := xkk hk BK167 NB167_0; replace BK183 := xkk hk BK183 NB183_0; replace HK := xA (KeepBut.trans (xH2 GW167.out GW183.out HK.out) hk (.inl rfl)); replace HB := xA (hb); replace HI0 := xA (hi); (try clear hb hk hi); have hnb109 := NB183_167.out; have hnc109 := NB167_183.out; have hnb110 := NB183_0.out; have hnc110 := NB0_183.out; replace hz183 := blk_cell BK183.out; replace hy183 := blk_frozen BK183.out; have hnb112 := NB167_0.out; have hnc112 := NB0_167.out; replace hz167 := blk_cell BK167.out; replace hy167 := blk_frozen BK167.out)))
  refine bodyPost_ret (results_cell_row rfl _ _ gb167 62 #[.int .i64 (wrap64 ((wrap64 (t171 - (ji8))) - 1)), .int .i64 t168, .int .i64 t174, .int .i64 t205, .bool t206] (0, 0) _ rfl (xPt1 NB167_183.out BK167.out) Try.underlying62 rfl (by kernel_rfl)) rfl ?_
  exact ⟨by first | rfl | (simp [errW_none, errW_some] <;> rfl) | (simp only [← hji5, ← hji8]; first | rfl | (simp [errW_none, errW_some] <;> rfl)) | (simp [*, errW_none, errW_some] <;> rfl), xJ129_12_2 NB0_167.out NB0_183.out HI0.out, xB3 (IsS129.ge HI0.out) GE167.out GE183.out HB.out, xH2 GW167.out GW183.out HK.out⟩
 ·skip
  try go_wp2_with (first | (refine xG (some 31) Try.func229 #[.pointer (some ⟨g, 0, none⟩), .int .i64 18] ?_; (with_reducible refine (spec_l1Cur_pick.calls g s0_0 t181 t182 18 t184 t185 t186 w0 _ ?side1 ?side2 A12.out).mono ?_); (case side1 => exact xJ129_12_2 NB0_167.out NB0_183.out HI0.out); (case side2 => exact xB3 (IsS129.ge HI0.out) GE167.out GE183.out HB.out); rintro e w128 ⟨rfl, hi, hb, hk⟩; refine ⟨_, rfl, ?_⟩; replace BK167 := xA (KeepBut.blk hk (xF1 NB167_183.out BK167.out) NB167_0.out (by simp)); replace BK183 := xA (KeepBut.blk hk (g' := gb183) (o := .cells #[.int .i64 (wrap64 ((wrap64 (t171 - (ji8))) - 1)), .int .i64 t168, .int .i64 t174, .int .i64 (wrap64 (2 + t177)), .bool t180] 62 (0, 0)) (xPt0 BK183.out) NB183_0.out (by simp)); replace HK := xA (KeepBut.trans (xH2 GW167.out GW183.out HK.out) hk (.inl rfl)); replace HB := xA (hb); replace HI0 := xA (hi); (try clear hb hk hi); have hnb129 := NB183_167.out; have hnc129 := NB167_183.out; have hnb130 := NB183_0.out; have hnc130 := NB0_183.out; replace hz183 := blk_cell BK183.out; replace hy183 := blk_frozen BK183.out; have hnb132 := NB167_0.out; have hnc132 := NB0_167.out; replace hz167 := blk_cell BK167.out; replace hy167 := blk_frozen BK167.out))
  refine bodyPost_ret (results_cell_row rfl _ _ gb167 62 #[.int .i64 (wrap64 ((wrap64 (t171 - (ji8))) - 1)), .int .i64 t168, .int .i64 t174, .int .i64 (wrap64 (2 + t177)), .bool t180] (0, 0) _ rfl (xPt0 BK167.out) Try.underlying62 rfl (by kernel_rfl)) rfl ?_
  exact ⟨by first | rfl | (simp [errW_none, errW_some] <;> rfl) | (simp only [← hji5, ← hji8]; first | rfl | (simp [errW_none, errW_some] <;> rfl)) | (simp [*, errW_none, errW_some] <;> rfl), xJ129_12_2 NB0_167.out NB0_183.out HI0.out, xB3 (IsS129.ge HI0.out) GE167.out GE183.out HB.out, xH2 GW167.out GW183.out HK.out⟩
 ·skip
  try go_wp2_with (first | (refine xq rfl ?_; first | (refine xG (some 31) Try.func229 #[.pointer (some ⟨g, 0, none⟩), .int .i64 18] ?_; (with_reducible refine (spec_l1Cur_pick.calls g s0_0 t181 t182 18 t184 t185 t186 w0 _ ?side1 ?side2 A12.out).mono ?_); (case side1 => exact xJ129_12_2 NB0_167.out NB0_183.out HI0.out); (case side2 => exact xB3 (IsS129.ge HI0.out) GE167.out GE183.out HB.out); rintro e w29 ⟨rfl, hi, hb, hk⟩; refine ⟨_, rfl, ?_⟩; replace BK167 := xA (KeepBut.blk hk (xF1 NB167_183.out BK167.out) NB167_0.out (by simp)); replace BK183 := xA (KeepBut.blk hk (g' := gb183) (o := .cells #[.int .i64 (wrap64 ((wrap64 (t171 - (ji8))) - 1)), .int .i64 t168, .int .i64 t174, .int .i64 (wrap64 (2 + t177)), .bool t180] 62 (0, 0)) (xPt0 BK183.out) NB183_0.out (by simp)); replace HK := xA (KeepBut.trans (xH2 GW167.out GW183.out HK.out) hk (.inl rfl)); replace HB := xA (hb); replace HI0 := xA (hi); (try clear hb hk hi)) | (refine xG (some 36) Try.func228 #[.pointer (some ⟨g, 0, none⟩), .slice Ao32 y187.length co32] ?_; (with_reducible refine (spec_l1Cur_among.calls g s0_0 t185 t186 _ _ y187 t190 t191 t192 w0 _ ?side1 ?side2 ?side3 ?side4 ?side5 A14.out).mono ?_); (case side1 => exact xJ129_12_2 NB0_167.out NB0_183.out HI0.out); (case side2 => exact xB3 (IsS129.ge HI0.out) GE167.out GE183.out HB.out); (case side3 => exact xC ((Kd.R_reads' HO189.out).2.2)); (case side4 => exact (Kd.R_reads' HO189.out).2.1); (case side5 => exact far_slice (IsS129.own_ne HI0.out HO189.out (by decide))); rintro e w33 ⟨rfl, hi, hb, hk⟩; refine ⟨_, rfl, ?_⟩; replace BK167 := xkk hk BK167 NB167_0; replace BK183 := xkk hk BK183 NB183_0; replace HO189 := xA (Kd.R_mono (Kd.R_keep (IsS129.apart (show IsS129 w0 _ g s0_0 t185 t186 from xJ129_12_2 NB0_167.out NB0_183.out HI0.out) (xR HO189.out) (by decide)) hk (fun _ h => h.2)) (fun _ h => h.1)); replace HK := xA (KeepBut.trans (xH2 GW167.out GW183.out HK.out) hk (.inl rfl)); replace HB := xA (hb); replace HI0 := xA (hi); (try clear hb hk hi); have hnb34 := NB183_167.out; have hnc34 := NB167_183.out; have hnb35 := NB183_0.out; have hnc35 := NB0_183.out; replace hz183 := blk_cell BK183.out; replace hy183 := blk_frozen BK183.out; have hnb37 := NB167_0.out; have hnc37 := NB0_167.out; replace hz167 := blk_cell BK167.out; replace hy167 := blk_frozen BK167.out)) | ((with_reducible refine gate_dst (N := 35) rfl ?_); refine Kd.R_lit (Kd.int .i64) _ 3 ?hg (N := 35) ?hd (xs := ([1024, (-1024), 1025, (-4611686018427387904), 0] : List Int)) (inner := [.int .i64 1024, .int .i64 (-1024), .int .i64 1025, .int .i64 (-4611686018427387904), .int .i64 0]) (ok := fun _ => True) (okp := fun _ => True) ?hr ?hp (fun _ hk => hk) trivial (Below.refl _ _) (Nat.le_refl _) (by simp) ?_; (case hd => rfl); (case hg => rfl); (case hr => first | (go_simp; done) | (go_simp; rfl)); (case hp => exact (Reps.one (show Kd.M (Kd.int .i64) _ _ _ 1024 [.int .i64 1024] from rfl) (Reps.one (show Kd.M (Kd.int .i64) _ _ _ (-1024) [.int .i64 (-1024)] from rfl) (Reps.one (show Kd.M (Kd.int .i64) _ _ _ 1025 [.int .i64 1025] from rfl) (Reps.one (show Kd.M (Kd.int .i64) _ _ _ (-4611686018427387904) [.int .i64 (-4611686018427387904)] from rfl) (Reps.one (show Kd.M (Kd.int .i64) _ _ _ 0 [.int .i64 0] from rfl) (Reps.none _ _))))))); intro v188 w30 ho31 hb hg_ hnew_; clear hg_ hnew_; (first | rw [← Ny187.out] at ho31 | (simp only [Int.reduceToNat] at ho31; rw [← Ny187.out] at ho31)); have HO189 := xA (Kd.R_lower ho31 (keep_size (w := w) (g := g) (row := none) (xH2 GW167.out GW183.out HK.out))); replace BK167 := xkb BK167 hb; replace BK183 := xkb BK183 hb; replace HK := xA (KeepBut.trans (xH2 GW167.out GW183.out HK.out) (KeepBut.of_below hb g none) (.inl rfl)); replace HB := xA (below_step (xB3 (IsS129.ge HI0.out) GE167.out GE183.out HB.out) hb); replace HI0 := xA (IsS129.below (xJ129_12_2 NB0_167.out NB0_183.out HI0.out) hb); clear hb ho31; obtain ⟨Ao32, co32, eo32⟩ := Kd.R_slice HO189.out; subst eo32))
  refine bodyPost_ret (results_cell_row rfl _ _ gb167 62 #[.int .i64 t190, .int .i64 t168, .int .i64 t174, .int .i64 (wrap64 (2 + t177)), .bool t180] (0, 0) _ rfl (xPt1 NB167_183.out BK167.out) Try.underlying62 rfl (by kernel_rfl)) rfl ?_
  exact ⟨by first | rfl | (simp [errW_none, errW_some] <;> rfl) | (simp only [← hji5, ← hji8]; first | rfl | (simp [errW_none, errW_some] <;> rfl)) | (simp [*, errW_none, errW_some] <;> rfl), xJ129_12_2 NB0_167.out NB0_183.out HI0.out, xB3 (IsS129.ge HI0.out) GE167.out GE183.out HB.out, xH2 GW167.out GW183.out HK.out⟩
 ·skip
  try go_wp2_with (first | (refine xq rfl ?_; first | (refine xG (some 31) Try.func229 #[.pointer (some ⟨g, 0, none⟩), .int .i64 18] ?_; (with_reducible refine (spec_l1Cur_pick.calls g s0_0 t181 t182 18 t184 t185 t186 w0 _ ?side1 ?side2 A12.out).mono ?_); (case side1 => exact xJ129_12_2 NB0_167.out NB0_183.out HI0.out); (case side2 => exact xB3 (IsS129.ge HI0.out) GE167.out GE183.out HB.out); rintro e w55 ⟨rfl, hi, hb, hk⟩; refine ⟨_, rfl, ?_⟩; replace BK167 := xA (KeepBut.blk hk (xF1 NB167_183.out BK167.out) NB167_0.out (by simp)); replace BK183 := xA (KeepBut.blk hk (g' := gb183) (o := .cells #[.int .i64 (wrap64 ((wrap64 (t171 - (ji8))) - 1)), .int .i64 t168, .int .i64 t174, .int .i64 (wrap64 (2 + t177)), .bool t180] 62 (0, 0)) (xPt0 BK183.out) NB183_0.out (by simp)); replace HK := xA (KeepBut.trans (xH2 GW167.out GW183.out HK.out) hk (.inl rfl)); replace HB := xA (hb); replace HI0 := xA (hi); (try clear hb hk hi)) | (refine xG (some 42) Try.func228 #[.pointer (some ⟨g, 0, none⟩), .slice Ao58 y193.length co58] ?_; (with_reducible refine (spec_l1Cur_among.calls g s0_0 t185 t186 _ _ y193 t196 t197 t198 w0 _ ?side1 ?side2 ?side3 ?side4 ?side5 A40.out).mono ?_); (case side1 => exact xJ129_12_2 NB0_167.out NB0_183.out HI0.out); (case side2 => exact xB3 (IsS129.ge HI0.out) GE167.out GE183.out HB.out); (case side3 => exact xC ((Kd.R_reads' HO195.out).2.2)); (case side4 => exact (Kd.R_reads' HO195.out).2.1); (case side5 => exact far_slice (IsS129.own_ne HI0.out HO195.out (by decide))); rintro e w59 ⟨rfl, hi, hb, hk⟩; refine ⟨_, rfl, ?_⟩; replace BK167 := xkk hk BK167 NB167_0; replace BK183 := xkk hk BK183 NB183_0; replace HO195 := xA (Kd.R_mono (Kd.R_keep (IsS129.apart (show IsS129 w0 _ g s0_0 t185 t186 from xJ129_12_2 NB0_167.out NB0_183.out HI0.out) (xR HO195.out) (by decide)) hk (fun _ h => h.2)) (fun _ h => h.1)); replace HK := xA (KeepBut.trans (xH2 GW167.out GW183.out HK.out) hk (.inl rfl)); replace HB := xA (hb); replace HI0 := xA (hi); (try clear hb hk hi); have hnb60 := NB183_167.out; have hnc60 := NB167_183.out; have hnb61 := NB183_0.out; have hnc61 := NB0_183.out; replace hz183 := blk_cell BK183.out; replace hy183 := blk_frozen BK183.out; have hnb63 := NB167_0.out; have hnc63 := NB0_167.out; replace hz167 := blk_cell BK167.out; replace hy167 := blk_frozen BK167.out)) | ((with_reducible refine gate_dst (N := 41) rfl ?_); refine Kd.R_lit (Kd.int .i64) _ 3 ?hg (N := 41) ?hd (xs := ([10, 11, (-1), 64] : List Int)) (inner := [.int .i64 10, .int .i64 11, .int .i64 (-1), .int .i64 64]) (ok := fun _ => True) (okp := fun _ => True) ?hr ?hp (fun _ hk => hk) trivial (Below.refl _ _) (Nat.le_refl _) (by simp) ?_; (case hd => rfl); (case hg => rfl); (case hr => first | (go_simp; done) | (go_simp; rfl)); (case hp => exact (Reps.one (show Kd.M (Kd.int .i64) _ _ _ 10 [.int .i64 10] from rfl) (Reps.one (show Kd.M (Kd.int .i64) _ _ _ 11 [.int .i64 11] from rfl) (Reps.one (show Kd.M (Kd.int .i64) _ _ _ (-1) [.int .i64 (-1)] from rfl) (Reps.one (show Kd.M (Kd.int .i64) _ _ _ 64 [.int .i64 64] from rfl) (Reps.none _ _)))))); intro v194 w56 ho57 hb hg_ hnew_; clear hg_ hnew_; (first | rw [← Ny193.out] at ho57 | (simp only [Int.reduceToNat] at ho57; rw [← Ny193.out] at ho57)); have HO195 := xA (Kd.R_lower ho57 (keep_size (w := w) (g := g) (row := none) (xH2 GW167.out GW183.out HK.out))); replace BK167 := xkb BK167 hb; replace BK183 := xkb BK183 hb; replace HK := xA (KeepBut.trans (xH2 GW167.out GW183.out HK.out) (KeepBut.of_below hb g none) (.inl rfl)); replace HB := xA (below_step (xB3 (IsS129.ge HI0.out) GE167.out GE183.out HB.out) hb); replace HI0 := xA (IsS129.below (xJ129_12_2 NB0_167.out NB0_183.out HI0.out) hb); clear hb ho57; obtain ⟨Ao58, co58, eo58⟩ := Kd.R_slice HO195.out; subst eo58))
  refine bodyPost_ret (results_cell_row rfl _ _ gb167 62 #[.int .i64 (wrap64 ((wrap64 (t171 - (ji8))) - 1)), .int .i64 t196, .int .i64 t174, .int .i64 (wrap64 (2 + t177)), .bool t180] (0, 0) _ rfl (xPt1 NB167_183.out BK167.out) Try.underlying62 rfl (by kernel_rfl)) rfl ?_
  exact ⟨by first | rfl | (simp [errW_none, errW_some] <;> rfl) | (simp only [← hji5, ← hji8]; first | rfl | (simp [errW_none, errW_some] <;> rfl)) | (simp [*, errW_none, errW_some] <;> rfl), xJ129_12_2 NB0_167.out NB0_183.out HI0.out, xB3 (IsS129.ge HI0.out) GE167.out GE183.out HB.out, xH2 GW167.out GW183.out HK.out⟩
 ·skip
  try go_wp2_with (first | (refine xq rfl ?_; first | (refine xG (some 31) Try.func229 #[.pointer (some ⟨g, 0, none⟩), .int .i64 18] ?_; (with_reducible refine (spec_l1Cur_pick.calls g s0_0 t181 t182 18 t184 t185 t186 w0 _ ?side1 ?side2 A12.out).mono ?_); (case side1 => exact xJ129_12_2 NB0_167.out NB0_183.out HI0.out); (case side2 => exact xB3 (IsS129.ge HI0.out) GE167.out GE183.out HB.out); rintro e w81 ⟨rfl, hi, hb, hk⟩; refine ⟨_, rfl, ?_⟩; replace BK167 := xA (KeepBut.blk hk (xF1 NB167_183.out BK167.out) NB167_0.out (by simp)); replace BK183 := xA (KeepBut.blk hk (g' := gb183) (o := .cells #[.int .i64 (wrap64 ((wrap64 (t171 - (ji8))) - 1)), .int .i64 t168, .int .i64 t174, .int .i64 (wrap64 (2 + t177)), .bool t180] 62 (0, 0)) (xPt0 BK183.out) NB183_0.out (by simp)); replace HK := xA (KeepBut.trans (xH2 GW167.out GW183.out HK.out) hk (.inl rfl)); replace HB := xA (hb); replace HI0 := xA (hi); (try clear hb hk hi)) | (refine xG (some 48) Try.func228 #[.pointer (some ⟨g, 0, none⟩), .slice Ao84 y199.length co84] ?_; (with_reducible refine (spec_l1Cur_among.calls g s0_0 t185 t186 _ _ y199 t202 t203 t204 w0 _ ?side1 ?side2 ?side3 ?side4 ?side5 A66.out).mono ?_); (case side1 => exact xJ129_12_2 NB0_167.out NB0_183.out HI0.out); (case side2 => exact xB3 (IsS129.ge HI0.out) GE167.out GE183.out HB.out); (case side3 => exact xC ((Kd.R_reads' HO201.out).2.2)); (case side4 => exact (Kd.R_reads' HO201.out).2.1); (case side5 => exact far_slice (IsS129.own_ne HI0.out HO201.out (by decide))); rintro e w85 ⟨rfl, hi, hb, hk⟩; refine ⟨_, rfl, ?_⟩; replace BK167 := xkk hk BK167 NB167_0; replace BK183 := xkk hk BK183 NB183_0; replace HO201 := xA (Kd.R_mono (Kd.R_keep (IsS129.apart (show IsS129 w0 _ g s0_0 t185 t186 from xJ129_12_2 NB0_167.out NB0_183.out HI0.out) (xR HO201.out) (by decide)) hk (fun _ h => h.2)) (fun _ h => h.1)); replace HK := xA (KeepBut.trans (xH2 GW167.out GW183.out HK.out) hk (.inl rfl)); replace HB := xA (hb); replace HI0 := xA (hi); (try clear hb hk hi); have hnb86 := NB183_167.out; have hnc86 := NB167_183.out; have hnb87 := NB183_0.out; have hnc87 := NB0_183.out; replace hz183 := blk_cell BK183.out; replace hy183 := blk_frozen BK183.out; have hnb89 := NB167_0.out; have hnc89 := NB0_167.out; replace hz167 := blk_cell BK167.out; replace hy167 := blk_frozen BK167.out)) | ((with_reducible refine gate_dst (N := 47) rfl ?_); refine Kd.R_lit (Kd.int .i64) _ 3 ?hg (N := 47) ?hd (xs := ([3, (-1)] : List Int)) (inner := [.int .i64 3, .int .i64 (-1)]) (ok := fun _ => True) (okp := fun _ => True) ?hr ?hp (fun _ hk => hk) trivial (Below.refl _ _) (Nat.le_refl _) (by simp) ?_; (case hd => rfl); (case hg => rfl); (case hr => first | (go_simp; done) | (go_simp; rfl)); (case hp => exact (Reps.one (show Kd.M (Kd.int .i64) _ _ _ 3 [.int .i64 3] from rfl) (Reps.one (show Kd.M (Kd.int .i64) _ _ _ (-1) [.int .i64 (-1)] from rfl) (Reps.none _ _)))); intro v200 w82 ho83 hb hg_ hnew_; clear hg_ hnew_; (first | rw [← Ny199.out] at ho83 | (simp only [Int.reduceToNat] at ho83; rw [← Ny199.out] at ho83)); have HO201 := xA (Kd.R_lower ho83 (keep_size (w := w) (g := g) (row := none) (xH2 GW167.out GW183.out HK.out))); replace BK167 := xkb BK167 hb; replace BK183 := xkb BK183 hb; replace HK := xA (KeepBut.trans (xH2 GW167.out GW183.out HK.out) (KeepBut.of_below hb g none) (.inl rfl)); replace HB := xA (below_step (xB3 (IsS129.ge HI0.out) GE167.out GE183.out HB.out) hb); replace HI0 := xA (IsS129.below (xJ129_12_2 NB0_167.out NB0_183.out HI0.out) hb); clear hb ho83; obtain ⟨Ao84, co84, eo84⟩ := Kd.R_slice HO201.out; subst eo84))
  refine bodyPost_ret (results_cell_row rfl _ _ gb167 62 #[.int .i64 (wrap64 ((wrap64 (t171 - (ji8))) - 1)), .int .i64 t168, .int .i64 t202, .int .i64 (wrap64 (2 + t177)), .bool t180] (0, 0) _ rfl (xPt1 NB167_183.out BK167.out) Try.underlying62 rfl (by kernel_rfl)) rfl ?_
  exact ⟨by first | rfl | (simp [errW_none, errW_some] <;> rfl) | (simp only [← hji5, ← hji8]; first | rfl | (simp [errW_none, errW_some] <;> rfl)) | (simp [*, errW_none, errW_some] <;> rfl), xJ129_12_2 NB0_167.out NB0_183.out HI0.out, xB3 (IsS129.ge HI0.out) GE167.out GE183.out HB.out, xH2 GW167.out GW183.out HK.out⟩
end Go.Proofs.Ytjplcongellcmaa.PFnFirstCycles
