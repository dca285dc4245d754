/- What each Go function that the statement FnRatesChanged reaches answers, proved call by call. No condition beyond those that the theorems print. (Written by wip/tools/xprint.py of this repo, over the kit's print.) -/
import Derived.Test.YtjplcongellcmaaPFnRatesChangedx0
import Derived.Test.YtjplcongellcmaaPFnRatesChangedx3
namespace Go.Proofs.Ytjplcongellcmaa.PFnRatesChanged
open Go.RowKit Go.Proofs.YtjplcongellcmaaW.PrintWords Go.Proofs.YtjplcongellcmaaW.PrintLast Go.Proofs.YtjplcongellcmaaW.PrintMore
attribute [local go_sem] max2_int min2_int max_two min_two max_three min_three max_four min_four   -- for this text's walks alone
set_option linter.unusedVariables false
set_option linter.unusedSimpArgs false
def x5a0 : Array Bool := #[false, false, false, false, false, false, false, false, false, false, false, false]
def x5a1 : Array Bool := #[true, false, false, false, false, false, false, false, false, false, false, false]
def x5a2 : Array Bool := #[true, true, false, false, false, false, false, false, false, false, false, false]
def x5a3 : Array Bool := #[true, true, true, false, false, false, false, false, false, false, false, false]
def x5a4 : Array Bool := #[true, true, true, true, false, false, false, false, false, false, false, false]
def x5a5 : Array Bool := #[true, true, true, true, true, false, false, false, false, false, false, false]
def x5a6 : Array Bool := #[true, true, true, true, true, true, false, false, false, false, false, false]
def x5a7 : Array Bool := #[true, true, true, true, true, true, true, false, false, false, false, false]
def x5a8 : Array Bool := #[true, true, true, true, true, true, true, true, false, false, false, false]
def x5a9 : Array Bool := #[true, true, true, true, true, true, true, true, true, false, false, false]
def x5a10 : Array Bool := #[true, true, true, true, true, true, true, true, true, true, false, false]
def x5a11 : Array Bool := #[true, true, true, true, true, true, true, true, true, true, true, false]
def x5a12 : Array Bool := #[true, true, true, true, true, true, true, true, true, true, true, true]
def x5a13 : Array Bool := #[false, false, false, false, false, false, false, false, false, false, false, false, false, false, false, false, false, false, false]
def x5a14 : Array Bool := #[true, false, false, false, false, false, false, false, false, false, false, false, false, false, false, false, false, false, false]
def x5a15 : Array Bool := #[true, true, false, false, false, false, false, false, false, false, false, false, false, false, false, false, false, false, false]
def x5a16 : Array Bool := #[true, true, true, false, false, false, false, false, false, false, false, false, false, false, false, false, false, false, false]
def x5a17 : Array Bool := #[true, true, true, true, false, false, false, false, false, false, false, false, false, false, false, false, false, false, false]
def x5a18 : Array Bool := #[true, true, true, true, true, false, false, false, false, false, false, false, false, false, false, false, false, false, false]
def x5a19 : Array Bool := #[true, true, true, true, true, true, false, false, false, false, false, false, false, false, false, false, false, false, false]
def x5a20 : Array Bool := #[true, true, true, true, true, true, true, false, false, false, false, false, false, false, false, false, false, false, false]
def x5a21 : Array Bool := #[true, true, true, true, true, true, true, false, false, true, false, false, false, false, false, false, false, false, false]
def x5a22 : Array Bool := #[true, true, true, true, true, true, true, false, false, true, true, false, false, false, false, false, false, false, false]
def x5a23 : Array Bool := #[true, true, true, true, true, true, true, false, false, true, true, true, false, false, false, false, false, false, false]
def x5a24 : Array Bool := #[true, true, true, true, true, true, true, false, false, true, true, true, true, false, false, false, false, false, false]
def x5a25 : Array Bool := #[true, true, true, true, true, true, true, true, false, true, true, true, true, false, false, false, false, false, false]
def x5a26 : Array Bool := #[true, true, true, true, true, true, true, true, true, true, true, true, true, false, false, false, false, false, false]
def x5a27 : Array Bool := #[true, true, true, true, true, true, true, true, true, true, true, true, true, true, false, false, false, false, false]
def x5a28 : Array Bool := #[true, true, true, true, true, true, true, true, true, true, true, true, true, true, true, false, false, false, false]
def x5a29 : Array Bool := #[true, true, true, true, true, true, true, true, true, true, true, true, true, true, true, true, false, false, false]
def x5a30 : Array Bool := #[true, true, true, true, true, true, true, true, true, true, true, true, true, true, true, true, true, false, false]
def x5a31 : Array Bool := #[true, true, true, true, true, true, true, true, true, true, true, true, true, true, true, true, true, true, false]
def x5a32 : Array Bool := #[true, true, true, true, true, true, true, true, true, true, true, true, true, true, true, true, true, true, true]

/-! ### spec_rsLine: function 222 -/
def spec_rsLine.l0 : Nat → List Int → Int → Int → List Int → Int → Option (List Int)
 | 0, _, _, _, _, _ => none
 | k + 1, x0, x1, x2, x7, x8 => (spec_rsLength.f (x0.length : Int) x1 x2).bind fun t284 => (if x8 < t284 then (if x1 = 0 then (none) else (if (wrap64 ((wrap64 (Int.tdiv (wrap64 (x8 * x2)) x1)) + 1)) < (x0.length : Int) then (if 0 ≤ (wrap64 (Int.tdiv (wrap64 (x8 * x2)) x1)) then (if (wrap64 (Int.tdiv (wrap64 (x8 * x2)) x1)) < (x0.length : Int) then (if 0 ≤ (wrap64 ((wrap64 (Int.tdiv (wrap64 (x8 * x2)) x1)) + 1)) then (if x7.length < 17592186044416 then (spec_rsLine.l0 k x0 x1 x2 (x7 ++ [wrap64 ((wrap64 ((wrap64 (x1 - (Int.tmod (wrap64 (x8 * x2)) x1))) * (rd x0 (wrap64 (Int.tdiv (wrap64 (x8 * x2)) x1))))) + (wrap64 ((Int.tmod (wrap64 (x8 * x2)) x1) * (rd x0 (wrap64 ((wrap64 (Int.tdiv (wrap64 (x8 * x2)) x1)) + 1))))))]) (wrap64 (x8 + 1))) else (none)) else (none)) else (none)) else (none)) else (if 0 ≤ (wrap64 (Int.tdiv (wrap64 (x8 * x2)) x1)) then (if (wrap64 (Int.tdiv (wrap64 (x8 * x2)) x1)) < (x0.length : Int) then (if x7.length < 17592186044416 then (spec_rsLine.l0 k x0 x1 x2 (x7 ++ [wrap64 ((wrap64 ((wrap64 (x1 - (Int.tmod (wrap64 (x8 * x2)) x1))) * (rd x0 (wrap64 (Int.tdiv (wrap64 (x8 * x2)) x1))))) + (wrap64 ((Int.tmod (wrap64 (x8 * x2)) x1) * (rd x0 (wrap64 (Int.tdiv (wrap64 (x8 * x2)) x1))))))]) (wrap64 (x8 + 1))) else (none)) else (none)) else (none)))) else (some x7))
def spec_rsLine.f (k : Nat) (l0 : List Int) (a1 : Int) (a2 : Int) : Option (List Int) := spec_rsLine.l0 k l0 a1 a2 ([] : List Int) 0
theorem spec_rsLine.mono_l : ∀ k, (∀ y0 y1 y2 y3 y4, LeO (spec_rsLine.l0 k y0 y1 y2 y3 y4) (spec_rsLine.l0 (k + 1) y0 y1 y2 y3 y4))
 | 0 => fun _ _ _ _ _ r h => by simp [spec_rsLine.l0] at h
 | k + 1 => by
  have ih0 := spec_rsLine.mono_l k
  intros
  unfold spec_rsLine.l0
  exact xM
theorem spec_rsLine.mono : ∀ a0 a1 a2 k, LeO (spec_rsLine.f k a0 a1 a2) (spec_rsLine.f (k + 1) a0 a1 a2) := by
 intro a0 a1 a2 k
 have ih0 := spec_rsLine.mono_l k
 unfold spec_rsLine.f
 exact xM
def spec_rsLine.T5 : Bool × List (List Nat × List Nat) := (true, [([], []), ([], []), ([0, 1], [0, 1]), ([], []), ([2, 3], [2, 3]), ([], []), ([], []), ([5, 6], [5, 6]), ([], []), ([7, 8], [7, 8]), ([4, 0, 1, 2, 3, 4], [4]), ([9, 10, 0, 1, 2, 3, 4, 5, 6, 7, 8, 9, 10], [9])])
def spec_rsLine.B5 : List Nat := [0, 0, 3, 0, 15, 0, 0, 96, 0, 480, 31, 2047]
theorem spec_rsLine.tab5 : rtab .any (opsOf Try.f222 5) = spec_rsLine.T5 := by kernel_rfl
theorem spec_rsLine.bits5 : waitsOk spec_rsLine.T5.2 spec_rsLine.B5 = true := by kernel_rfl
def spec_rsLine.T9 : Bool × List (List Nat × List Nat) := (true, [([], []), ([], []), ([], []), ([1, 2], [1, 2]), ([], []), ([], []), ([4, 5], [4, 5]), ([6], [6]), ([3, 7], [3, 7]), ([], []), ([], []), ([], []), ([10, 11], [10, 11]), ([12], [12]), ([9, 13], [9, 13]), ([8, 14], [8, 14]), ([15], [15]), ([0, 16], [0, 16]), ([17, 17, 0, 1, 2, 3, 4, 5, 6, 7, 8, 9, 10, 11, 12, 13, 14, 15, 16, 17], [0, 17])])
def spec_rsLine.B9 : List Nat := [0, 0, 0, 6, 0, 0, 48, 112, 254, 0, 0, 0, 3072, 7168, 15872, 32766, 65534, 131071, 262143]
theorem spec_rsLine.tab9 : rtab .any (opsOf Try.f222 9) = spec_rsLine.T9 := by kernel_rfl
theorem spec_rsLine.bits9 : waitsOk spec_rsLine.T9.2 spec_rsLine.B9 = true := by kernel_rfl
set_option maxHeartbeats 8000000 in
set_option maxRecDepth 100000 in
theorem spec_rsLine.calls (k : Nat) (A0 : Option Addr) (c0 : Nat) (l0 : List Int) (a1 : Int) (a2 : Int) (r : List Int) (w : World) (hr0 : Kd.C (Kd.int .i64) w A0 l0.length l0) (hc0 : l0.length ≤ c0) (h : spec_rsLine.f k l0 a1 a2 = some r) :
  Calls Try.prog 222 #[.slice A0 l0.length c0, .int .i64 a1, .int .i64 a2] w fun e w' => ∃ v0_ : Value, e = .returned (v0_) ∧ Kd.R (Kd.int .i64) 3 w' w.heap.size (fun _ => True) v0_ r ∧ Below w.heap.size w w' := by
 have HR0 := Aside0.mk hr0
 have HC0 := Aside0.mk hc0
 clear hr0 hc0
 have HB := Aside0.mk (Below.refl w.heap.size w)
 have H : (spec_rsLine.l0 k l0 a1 a2 ([] : List Int) 0) = some r := h
 clear h
 have H' := Aside0.mk H
 clear H
 go_enter Try.func222, Try.ntmps222
 go_wp2
 go_loopg [7, 8] k (fun kq v7 v8 w' => ∃ (x7_1 : List Int) (x8_1 : Int), v8 = .int .i64 x8_1 ∧ Aside0 (spec_rsLine.l0 kq l0 a1 a2 x7_1 x8_1 = some r) ∧ Aside0 (kq ≤ k) ∧ Aside0 (Kd.R (Kd.int .i64) 3 w' w.heap.size (fun _ => True) v7 x7_1) ∧ Aside0 (Below w.heap.size w w'))
 case atStart => exact ⟨(([] : List Int)), (0), (by first | rfl | (simp; done) | (simp [*]; done)), H', ⟨Nat.le_refl _⟩, ⟨by first | exact Kd.R_nil _ _ _ _ _ | exact Kd.N_nil _ _ _ _ _ | exact Kd.V_nil _ _ _ _ _ | exact Kd.Q_nil _ _ _ _ _ | exact Kd.S_nil _ _ _ _ _⟩, ⟨xB HB.out⟩⟩
 case round =>
  clear H'
  obtain ⟨x7_1, x8_1, rfl, HA, HK1, HO_7, HB⟩ := hrel
  cases gk with
  | zero => exact absurd HA.out (by simp [spec_rsLine.l0])
  | succ k1 =>
   have H := HA.out
   clear HA
   simp only [spec_rsLine.l0] at H
   obtain ⟨t284, A4, H⟩ := xO H
   (try dsimp only at H)
   by_cases c5 : x8_1 < t284
   rotate_left
   ·rw [if_neg c5] at H
    have c5b0 : decide (x8_1 < t284) = false := decide_eq_false c5
    clear c5
    obtain rfl := Option.some.inj H
    go_wp2_with (first | (refine xG (some 17) Try.func218 #[.int .i64 (l0.length : Int), .int .i64 a1, .int .i64 a2] ?_; (with_reducible refine (spec_rsLength.calls (l0.length : Int) a1 a2 t284 _ A4.out).mono ?_); rintro e w' ⟨rfl, ⟨nd, rfl⟩⟩; refine ⟨_, rfl, ?_⟩))
    go_ret
    exact ⟨_, by first | rfl | (simp [errW_none, errW_some] <;> rfl) | (simp [*, errW_none, errW_some] <;> rfl), xR HO_7.out, xB HB.out⟩

   rw [if_pos c5] at H
   have c5b0 : decide (x8_1 < t284) = true := decide_eq_true c5
   clear c5
   by_cases c6 : a1 = 0
   ·rw [if_pos c6] at H
    exact absurd H (by simp)
   rw [if_neg c6] at H
   have c6b0 : (a1 == 0) = false := beq_eq_false_iff_ne.mpr c6
   have c6b1 : (a1 != 0) = true := bne_iff_ne.mpr c6
   by_cases c7 : (wrap64 ((wrap64 (Int.tdiv (wrap64 (x8_1 * a2)) a1)) + 1)) < (l0.length : Int)
   rotate_left
   ·rw [if_neg c7] at H
    have c7b0 : decide ((wrap64 ((wrap64 (Int.tdiv (wrap64 (x8_1 * a2)) a1)) + 1)) < (l0.length : Int)) = false := decide_eq_false c7
    clear c7
    obtain ⟨ji17, hji17⟩ : ∃ j_ : Int, (wrap64 (Int.tdiv (wrap64 (x8_1 * a2)) a1)) = j_ := ⟨_, rfl⟩
    replace H : (if 0 ≤ (ji17) then (if (ji17) < (l0.length : Int) then (if x7_1.length < 17592186044416 then (spec_rsLine.l0 k1 l0 a1 a2 (x7_1 ++ [wrap64 ((wrap64 ((wrap64 (a1 - (Int.tmod (wrap64 (x8_1 * a2)) a1))) * (rd l0 (ji17)))) + (wrap64 ((Int.tmod (wrap64 (x8_1 * a2)) a1) * (rd l0 (ji17)))))]) (wrap64 (x8_1 + 1))) else (none)) else (none)) else (none)) = some r := by first | (rw [hji17] at H; exact H) | (simp only [hji17] at H ⊢; exact H)
    (try rw [hji17] at c7b0)
    (try rw [hji17] at A4)
    have hji17w : (IntKind.i64.wrap (Int.tdiv (wrap64 (x8_1 * a2)) a1)) = ji17 := (i64_w _).trans hji17
    by_cases c18 : 0 ≤ (ji17)
    rotate_left
    ·rw [if_neg c18] at H
     exact absurd H (by simp)
    rw [if_pos c18] at H
    have c18b0 : decide (0 ≤ (ji17)) = true := decide_eq_true c18
    clear c18
    by_cases c19 : (ji17) < (l0.length : Int)
    rotate_left
    ·rw [if_neg c19] at H
     exact absurd H (by simp)
    rw [if_pos c19] at H
    have c19b0 : decide ((ji17) < (l0.length : Int)) = true := decide_eq_true c19
    clear c19
    by_cases c20 : x7_1.length < 17592186044416
    rotate_left
    ·rw [if_neg c20] at H
     exact absurd H (by simp)
    rw [if_pos c20] at H
    have LMc20 := Aside0.mk c20
    clear c20
    obtain ⟨y292, hy292⟩ : ∃ y_ : List Int, y_ = (x7_1 ++ [wrap64 ((wrap64 ((wrap64 (a1 - (Int.tmod (wrap64 (x8_1 * a2)) a1))) * (rd l0 (ji17)))) + (wrap64 ((Int.tmod (wrap64 (x8_1 * a2)) a1) * (rd l0 (ji17)))))]) := ⟨_, rfl⟩
    replace H : (spec_rsLine.l0 k1 l0 a1 a2 y292 (wrap64 (x8_1 + 1))) = some r := by first | (rw [hy292]; with_reducible exact H) | (have H2_ := (Option.bind_some _ _).symm.trans H; rw [hy292]; with_reducible exact H2_) | (have H2_ := (Option.bind_some _ _).symm.trans H; with_reducible exact H2_) | with_reducible exact H | (rw [hy292]; exact H) | exact H
    have Ny292 := Aside0.mk hy292
    clear hy292
    have H' := Aside0.mk H
    clear H
    try go_wp2_with (first | (refine xG (some 17) Try.func218 #[.int .i64 (l0.length : Int), .int .i64 a1, .int .i64 a2] ?_; (with_reducible refine (spec_rsLength.calls (l0.length : Int) a1 a2 t284 _ A4.out).mono ?_); rintro e w' ⟨rfl, ⟨nd, rfl⟩⟩; refine ⟨_, rfl, ?_⟩))
    (try (rw [drewN_self wr]; generalize hq_ : World.drewN wr _ = wr; have n0_ : Aside0 (Kd.R (Kd.int .i64) 3 wr w.heap.size (fun _ => True) u7 x7_1) := ⟨by rw [← hq_]; exact (xR HO_7.out)⟩; have n1_ : Aside0 (Below w.heap.size w wr) := ⟨by rw [← hq_]; exact (xB HB.out)⟩; clear HO_7 HB hq_; have HO_7 := n0_; have HB := n1_; clear n0_ n1_))
    have n0_ := Aside0.mk (Kd.R_drew HO_7.out)
    have n1_ := Aside0.mk (below_drew1 HB.out)
    clear HO_7
    clear HB
    have HO_7 := n0_
    have HB := n1_
    clear n0_ n1_
    refine start_ (n := 12) (S := fun w' => True) (ds := []) x5a0 (by kernel_rfl) rfl rfl trivial (fun hHeld => ?_); refine with_tabW spec_rsLine.tab5 spec_rsLine.bits5 (fun HT_ HW_ => ?_)
    generalize wr.drew = w21 at HO_7 HB hHeld ⊢
    refine pure_ (i := 0) (N := some 21) (v := ?_) (a' := ?_) x5a1 rfl rfl (any_of HT_.out (by kernel_rfl)) (fun _ _ _ h => h) (Or.inl ⟨by rfl, ?_⟩) ?_ ?_; rotate_left; (intro w'; go_simp; with_reducible rfl); rotate_left; exact xE
    refine pure_ (i := 1) (N := some 22) (v := ?_) (a' := ?_) x5a2 rfl rfl (any_of HT_.out (by kernel_rfl)) (fun _ _ _ h => h) (Or.inl ⟨by rfl, ?_⟩) ?_ ?_; rotate_left; (intro w'; go_simp; with_reducible rfl); rotate_left; exact xE
    refine pure_ (i := 2) (N := some 23) (v := ?_) (a' := ?_) x5a3 rfl rfl (any_of HT_.out (by kernel_rfl)) (fun _ _ _ h => h) (Or.inl ⟨by rfl, ?_⟩) ?_ ?_; rotate_left; (intro w'; go_simp; with_reducible rfl); rotate_left; exact xE
    refine pure_ (i := 3) (N := some 24) (v := ?_) (a' := ?_) x5a4 rfl rfl (any_of HT_.out (by kernel_rfl)) (fun _ _ _ h => h) (Or.inl ⟨by rfl, ?_⟩) ?_ ?_; rotate_left; (intro w'; go_simp; with_reducible rfl); rotate_left; exact xE
    refine pure_ (i := 4) (N := some 25) (v := ?_) (a' := ?_) x5a5 rfl rfl (any_of HT_.out (by kernel_rfl)) (fun _ _ _ h => h) (Or.inl ⟨by rfl, ?_⟩) ?_ ?_; rotate_left; (intro w'; go_simp; with_reducible rfl); rotate_left; exact xE
    refine pure_ (i := 5) (N := some 26) (v := ?_) (a' := ?_) x5a6 rfl rfl (any_of HT_.out (by kernel_rfl)) (fun _ _ _ h => h) (Or.inl ⟨by rfl, ?_⟩) ?_ ?_; rotate_left; (intro w'; go_simp; with_reducible rfl); rotate_left; exact xE
    refine pure_ (i := 6) (N := some 27) (v := ?_) (a' := ?_) x5a7 rfl rfl (any_of HT_.out (by kernel_rfl)) (fun _ _ _ h => h) (Or.inl ⟨by rfl, ?_⟩) ?_ ?_; rotate_left; (intro w'; go_simp; with_reducible rfl); rotate_left; exact xE
    refine pure_ (i := 7) (N := some 28) (v := ?_) (a' := ?_) x5a8 rfl rfl (any_of HT_.out (by kernel_rfl)) (fun _ _ _ h => h) (Or.inl ⟨by rfl, ?_⟩) ?_ ?_; rotate_left; (intro w'; go_simp; with_reducible rfl); rotate_left; exact xE
    refine pure_ (i := 8) (N := some 29) (v := ?_) (a' := ?_) x5a9 rfl rfl (any_of HT_.out (by kernel_rfl)) (fun _ _ _ h => h) (Or.inl ⟨by rfl, ?_⟩) ?_ ?_; rotate_left; (intro w'; go_simp; with_reducible rfl); rotate_left; exact xE
    refine pure_ (i := 9) (N := some 30) (v := ?_) (a' := ?_) x5a10 rfl rfl (any_of HT_.out (by kernel_rfl)) (fun _ _ _ h => h) (Or.inl ⟨by rfl, ?_⟩) ?_ ?_; rotate_left; (intro w'; go_simp; with_reducible rfl); rotate_left; exact xE
    refine pure_ (i := 10) (N := some 9) (v := ?_) (a' := ?_) x5a11 rfl rfl (any_of HT_.out (by kernel_rfl)) (fun _ _ _ h => h) (Or.inl ⟨by rfl, ?_⟩) ?_ ?_; rotate_left; (intro w'; go_simp; with_reducible rfl); rotate_left; exact xE
    refine pure_ (i := 11) (N := some 10) (v := ?_) (a' := ?_) x5a12 rfl rfl (any_of HT_.out (by kernel_rfl)) (fun _ _ _ h => h) (Or.inl ⟨by rfl, ?_⟩) ?_ ?_; rotate_left; (intro w'; go_simp; with_reducible rfl); rotate_left; exact xE
    refine done_ (done_of HT_.out (by kernel_rfl)) ?_
    try go_wp2
    have n0_ := Aside0.mk (Kd.R_drew HO_7.out)
    have n1_ := Aside0.mk (below_drew1 HB.out)
    clear HO_7
    clear HB
    have HO_7 := n0_
    have HB := n1_
    clear n0_ n1_
    have p290 : 0 ≤ ((ji17) : Int) := of_decide_eq_true (by first | (with_reducible assumption) | assumption | (rw [← hji17]; first | (with_reducible assumption) | assumption))
    have q290 : (ji17) < (l0.length : Int) := of_decide_eq_true (by first | (with_reducible assumption) | assumption | (rw [← hji17]; first | (with_reducible assumption) | assumption))
    obtain ⟨ad290, e290, hx290_0⟩ := Kd.at_int HR0.out (ji17) p290 q290
    have hw290_0 := hx290_0
    cases e290
    replace hx290_0 := (HB.out.cell (World.block_lt_of_cell? w _ hx290_0)).trans hx290_0
    replace p290 := eq_true p290
    replace q290 := eq_true q290
    have p291 : 0 ≤ ((ji17) : Int) := of_decide_eq_true (by first | (with_reducible assumption) | assumption | (rw [← hji17]; first | (with_reducible assumption) | assumption))
    have q291 : (ji17) < (l0.length : Int) := of_decide_eq_true (by first | (with_reducible assumption) | assumption | (rw [← hji17]; first | (with_reducible assumption) | assumption))
    obtain ⟨ad291, e291, hx291_0⟩ := Kd.at_int HR0.out (ji17) p291 q291
    have hw291_0 := hx291_0
    obtain rfl : ad290 = ad291 := (by injection e291)
    replace hx291_0 := (HB.out.cell (World.block_lt_of_cell? w _ hx291_0)).trans hx291_0
    replace p291 := eq_true p291
    replace q291 := eq_true q291
    refine start_ (n := 19) (S := fun w' => w'.cell? (ad290.add ((ji17)).toNat) = some (.int .i64 (rd l0 (ji17))) ∧ w'.cell? (ad290.add ((ji17)).toNat) = some (.int .i64 (rd l0 (ji17)))) (ds := []) x5a13 (by kernel_rfl) rfl rfl ⟨((HB.out.cell (World.block_lt_of_cell? w _ hw290_0)).trans hw290_0), ((HB.out.cell (World.block_lt_of_cell? w _ hw291_0)).trans hw291_0)⟩ (fun hHeld => ?_); refine with_tabW spec_rsLine.tab9 spec_rsLine.bits9 (fun HT_ HW_ => ?_)
    generalize w21.drew = w22 at HO_7 HB hx290_0 hx291_0 hHeld ⊢
    refine pure_ (i := 0) (N := some 39) (v := ?_) (a' := ?_) x5a14 rfl rfl (any_of HT_.out (by kernel_rfl)) (fun _ _ _ h => h) (Or.inl ⟨by rfl, ?_⟩) ?_ ?_; rotate_left; (intro w'; go_simp; with_reducible rfl); rotate_left; exact xE
    refine pure_ (i := 1) (N := some 40) (v := ?_) (a' := ?_) x5a15 rfl rfl (any_of HT_.out (by kernel_rfl)) (fun _ _ _ h => h) (Or.inl ⟨by rfl, ?_⟩) ?_ ?_; rotate_left; (intro w'; go_simp; with_reducible rfl); rotate_left; exact xE
    refine pure_ (i := 2) (N := some 41) (v := ?_) (a' := ?_) x5a16 rfl rfl (any_of HT_.out (by kernel_rfl)) (fun _ _ _ h => h) (Or.inl ⟨by rfl, ?_⟩) ?_ ?_; rotate_left; (intro w'; go_simp; with_reducible rfl); rotate_left; exact xE
    refine pure_ (i := 3) (N := some 42) (v := ?_) (a' := ?_) x5a17 rfl rfl (any_of HT_.out (by kernel_rfl)) (fun _ _ _ h => h) (Or.inl ⟨by rfl, ?_⟩) ?_ ?_; rotate_left; (intro w'; go_simp; with_reducible rfl); rotate_left; exact xE
    refine pure_ (i := 4) (N := some 43) (v := ?_) (a' := ?_) x5a18 rfl rfl (any_of HT_.out (by kernel_rfl)) (fun _ _ _ h => h) (Or.inl ⟨by rfl, ?_⟩) ?_ ?_; rotate_left; (intro w'; go_simp; with_reducible rfl); rotate_left; exact xE
    refine pure_ (i := 5) (N := some 44) (v := ?_) (a' := ?_) x5a19 rfl rfl (any_of HT_.out (by kernel_rfl)) (fun _ _ _ h => h) (Or.inl ⟨by rfl, ?_⟩) ?_ ?_; rotate_left; (intro w'; go_simp; with_reducible rfl); rotate_left; exact xE
    refine pure_ (i := 6) (N := some 45) (v := ?_) (a' := ?_) x5a20 rfl rfl (any_of HT_.out (by kernel_rfl)) (fun _ _ _ h => h) (Or.inl ⟨by rfl, ?_⟩) ?_ ?_; rotate_left; (intro w'; go_simp; with_reducible rfl); rotate_left; exact xE
    refine pure_ (i := 9) (N := some 48) (v := ?_) (a' := ?_) x5a21 rfl rfl (any_of HT_.out (by kernel_rfl)) (fun _ _ _ h => h) (Or.inl ⟨by rfl, ?_⟩) ?_ ?_; rotate_left; (intro w'; go_simp; with_reducible rfl); rotate_left; exact xE
    refine pure_ (i := 10) (N := some 49) (v := ?_) (a' := ?_) x5a22 rfl rfl (any_of HT_.out (by kernel_rfl)) (fun _ _ _ h => h) (Or.inl ⟨by rfl, ?_⟩) ?_ ?_; rotate_left; (intro w'; go_simp; with_reducible rfl); rotate_left; exact xE
    refine pure_ (i := 11) (N := some 50) (v := ?_) (a' := ?_) x5a23 rfl rfl (any_of HT_.out (by kernel_rfl)) (fun _ _ _ h => h) (Or.inl ⟨by rfl, ?_⟩) ?_ ?_; rotate_left; (intro w'; go_simp; with_reducible rfl); rotate_left; exact xE
    refine pure_ (i := 12) (N := some 51) (v := ?_) (a' := ?_) x5a24 rfl rfl (any_of HT_.out (by kernel_rfl)) (fun _ _ _ h => h) (Or.inl ⟨by rfl, ?_⟩) ?_ ?_; rotate_left; (intro w'; go_simp; with_reducible rfl); rotate_left; exact xE
    refine take_ (i := 7) (N := some 46) (v := ?_) (a' := ?_) x5a25 rfl rfl (take_ofW HT_.out HW_.out (by kernel_rfl)) (fun _ _ _ h => h) (Or.inl ⟨by rfl, ?_⟩) hHeld ?_ ?_
    rotate_left
    ·rintro w' ⟨s0, s1⟩
     go_simp
     with_reducible rfl
    rotate_left
    ·exact xE
    refine pure_ (i := 8) (N := some 47) (v := ?_) (a' := ?_) x5a26 rfl rfl (any_of HT_.out (by kernel_rfl)) (fun _ _ _ h => h) (Or.inl ⟨by rfl, ?_⟩) ?_ ?_; rotate_left; (intro w'; go_simp; with_reducible rfl); rotate_left; exact xE
    refine take_ (i := 13) (N := some 52) (v := ?_) (a' := ?_) x5a27 rfl rfl (take_ofW HT_.out HW_.out (by kernel_rfl)) (fun _ _ _ h => h) (Or.inl ⟨by rfl, ?_⟩) hHeld ?_ ?_
    rotate_left
    ·rintro w' ⟨s0, s1⟩
     go_simp
     with_reducible rfl
    rotate_left
    ·exact xE
    refine pure_ (i := 14) (N := some 53) (v := ?_) (a' := ?_) x5a28 rfl rfl (any_of HT_.out (by kernel_rfl)) (fun _ _ _ h => h) (Or.inl ⟨by rfl, ?_⟩) ?_ ?_; rotate_left; (intro w'; go_simp; with_reducible rfl); rotate_left; exact xE
    refine pure_ (i := 15) (N := some 54) (v := ?_) (a' := ?_) x5a29 rfl rfl (any_of HT_.out (by kernel_rfl)) (fun _ _ _ h => h) (Or.inl ⟨by rfl, ?_⟩) ?_ ?_; rotate_left; (intro w'; go_simp; with_reducible rfl); rotate_left; exact xE
    refine one_ (i := 16) (N := some 55) x5a30 rfl rfl (one_of HT_.out (by kernel_rfl)) (by decide) (fun K hK => ?_)
    refine value_ (w1 := ?_) (v := ?_) (by rfl) rfl ?_ ?_
    rotate_left 2
    ·go_simp
     constructor
     ·rfl
     ·rfl
    refine hK.out _ _ ⟨(World.cell?_alloc_lt _ _ _ (World.block_lt_of_cell? _ _ (((HB.out.cell (World.block_lt_of_cell? w _ hw290_0)).trans hw290_0)))).trans (((HB.out.cell (World.block_lt_of_cell? w _ hw290_0)).trans hw290_0)), (World.cell?_alloc_lt _ _ _ (World.block_lt_of_cell? _ _ (((HB.out.cell (World.block_lt_of_cell? w _ hw291_0)).trans hw291_0)))).trans (((HB.out.cell (World.block_lt_of_cell? w _ hw291_0)).trans hw291_0))⟩ (fun hHeld => ?_)
    clear hK K
    refine norm_ (a' := ?_) ?_ ?_
    rotate_left
    ·show Act.put _ (some 55) _ = _
     simp only [Act.put, List.setIfInBounds_toArray, List.set_cons_zero, List.set_cons_succ, i64_w, i32_w]
     rfl
    refine one_ (i := 17) (N := some 56) x5a31 rfl rfl (one_of HT_.out (by kernel_rfl)) (by decide) (fun K hK => ?_)
    refine Kd.R_append_step (Kd.int .i64) (w0 := w) w.heap.size (by rfl) (.tmp 39) (.tmp 55) 24 3 (.int .i64 0) 8 rfl Try.underlying24 info3 rfl (by decide) (by omega) u7 x7_1 (wrap64 ((wrap64 ((wrap64 (a1 - (Int.tmod (wrap64 (x8_1 * a2)) a1))) * (rd l0 (ji17)))) + (wrap64 ((Int.tmod (wrap64 (x8_1 * a2)) a1) * (rd l0 (ji17)))))) [.int .i64 (wrap64 ((wrap64 ((wrap64 (a1 - (Int.tmod (wrap64 (x8_1 * a2)) a1))) * (rd l0 (ji17)))) + (wrap64 ((Int.tmod (wrap64 (x8_1 * a2)) a1) * (rd l0 (ji17))))))] (fun _ => True) (fun _ => False) rfl rfl ?aP (fun _ hk => hk.elim) ?aF ?aO ?aB ?aS ?aL ?_
    (case aP => exact rfl)
    (case aB => exact (xB HB.out))
    (case aF => exact (fun _ _ => trivial))
    (case aO => exact (xR HO_7.out))
    (case aS => exact (below_size (xB HB.out)))
    (case aL => have := LMc20.out; omega)
    intro v293 w23 ho hb hg hat
    rw [← Ny292.out] at ho
    have n0_ := Aside0.mk (hb)
    have n1_ := Aside0.mk (ho)
    clear HB
    clear HO_7
    have HB := n0_
    have HO294 := n1_
    clear n0_ n1_
    clear ho hb hg hat
    refine hK.out _ _ ⟨((HB.out.cell (World.block_lt_of_cell? w _ hw290_0)).trans hw290_0), ((HB.out.cell (World.block_lt_of_cell? w _ hw291_0)).trans hw291_0)⟩ (fun hHeld => ?_)
    clear hK K
    refine norm_ (a' := ?_) ?_ ?_
    rotate_left
    ·show Act.put _ (some 56) _ = _
     simp only [Act.put, List.setIfInBounds_toArray, List.set_cons_zero, List.set_cons_succ, i64_w, i32_w]
     rfl
    refine pure_ (i := 18) (N := some 7) (v := ?_) (a' := ?_) x5a32 rfl rfl (any_of HT_.out (by kernel_rfl)) (fun _ _ _ h => h) (Or.inl ⟨by rfl, ?_⟩) ?_ ?_; rotate_left; (intro w'; go_simp; with_reducible rfl); rotate_left; exact xE
    refine done_ (done_of HT_.out (by kernel_rfl)) ?_
    try go_wp2
    go_roundg k1
    case measure => have := HK1.out; omega
    case rel => exact ⟨(y292), (wrap64 (x8_1 + 1)), (by first | rfl | (simp; done) | (simp [*]; done)), H', ⟨by have := HK1.out; omega⟩, ⟨xR HO294.out⟩, ⟨xB HB.out⟩⟩
   rw [if_pos c7] at H
   have c7b0 : decide ((wrap64 ((wrap64 (Int.tdiv (wrap64 (x8_1 * a2)) a1)) + 1)) < (l0.length : Int)) = true := decide_eq_true c7
   clear c7
   obtain ⟨ji8, hji8⟩ : ∃ j_ : Int, (wrap64 (Int.tdiv (wrap64 (x8_1 * a2)) a1)) = j_ := ⟨_, rfl⟩
   replace H : (if 0 ≤ (ji8) then (if (ji8) < (l0.length : Int) then (if 0 ≤ (wrap64 ((ji8) + 1)) then (if x7_1.length < 17592186044416 then (spec_rsLine.l0 k1 l0 a1 a2 (x7_1 ++ [wrap64 ((wrap64 ((wrap64 (a1 - (Int.tmod (wrap64 (x8_1 * a2)) a1))) * (rd l0 (ji8)))) + (wrap64 ((Int.tmod (wrap64 (x8_1 * a2)) a1) * (rd l0 (wrap64 ((ji8) + 1))))))]) (wrap64 (x8_1 + 1))) else (none)) else (none)) else (none)) else (none)) = some r := by first | (rw [hji8] at H; exact H) | (simp only [hji8] at H ⊢; exact H)
   (try rw [hji8] at c7b0)
   (try rw [hji8] at A4)
   have hji8w : (IntKind.i64.wrap (Int.tdiv (wrap64 (x8_1 * a2)) a1)) = ji8 := (i64_w _).trans hji8
   by_cases c9 : 0 ≤ (ji8)
   rotate_left
   ·rw [if_neg c9] at H
    exact absurd H (by simp)
   rw [if_pos c9] at H
   have c9b0 : decide (0 ≤ (ji8)) = true := decide_eq_true c9
   clear c9
   by_cases c10 : (ji8) < (l0.length : Int)
   rotate_left
   ·rw [if_neg c10] at H
    exact absurd H (by simp)
   rw [if_pos c10] at H
   have c10b0 : decide ((ji8) < (l0.length : Int)) = true := decide_eq_true c10
   clear c10
   obtain ⟨ji11, hji11⟩ : ∃ j_ : Int, (wrap64 ((ji8) + 1)) = j_ := ⟨_, rfl⟩
   replace H : (if 0 ≤ (ji11) then (if x7_1.length < 17592186044416 then (spec_rsLine.l0 k1 l0 a1 a2 (x7_1 ++ [wrap64 ((wrap64 ((wrap64 (a1 - (Int.tmod (wrap64 (x8_1 * a2)) a1))) * (rd l0 (ji8)))) + (wrap64 ((Int.tmod (wrap64 (x8_1 * a2)) a1) * (rd l0 (ji11)))))]) (wrap64 (x8_1 + 1))) else (none)) else (none)) = some r := by first | (rw [hji11] at H; exact H) | (simp only [hji11] at H ⊢; exact H)
   (try rw [hji11] at A4)
   (try rw [hji11] at c10b0)
   (try rw [hji11] at c9b0)
   (try rw [hji11] at c7b0)
   (try rw [hji11] at c6b1)
   (try rw [hji11] at c6b0)
   (try rw [hji11] at c5b0)
   have hji11w : (IntKind.i64.wrap ((ji8) + 1)) = ji11 := (i64_w _).trans hji11
   by_cases c12 : 0 ≤ (ji11)
   rotate_left
   ·rw [if_neg c12] at H
    exact absurd H (by simp)
   rw [if_pos c12] at H
   have c12b0 : decide (0 ≤ (ji11)) = true := decide_eq_true c12
   clear c12
   by_cases c13 : x7_1.length < 17592186044416
   rotate_left
   ·rw [if_neg c13] at H
    exact absurd H (by simp)
   rw [if_pos c13] at H
   have LMc13 := Aside0.mk c13
   clear c13
   obtain ⟨y287, hy287⟩ : ∃ y_ : List Int, y_ = (x7_1 ++ [wrap64 ((wrap64 ((wrap64 (a1 - (Int.tmod (wrap64 (x8_1 * a2)) a1))) * (rd l0 (ji8)))) + (wrap64 ((Int.tmod (wrap64 (x8_1 * a2)) a1) * (rd l0 (ji11)))))]) := ⟨_, rfl⟩
   replace H : (spec_rsLine.l0 k1 l0 a1 a2 y287 (wrap64 (x8_1 + 1))) = some r := by first | (rw [hy287]; with_reducible exact H) | (have H2_ := (Option.bind_some _ _).symm.trans H; rw [hy287]; with_reducible exact H2_) | (have H2_ := (Option.bind_some _ _).symm.trans H; with_reducible exact H2_) | with_reducible exact H | (rw [hy287]; exact H) | exact H
   have Ny287 := Aside0.mk hy287
   clear hy287
   have H' := Aside0.mk H
   clear H
   try go_wp2_with (first | (refine xG (some 17) Try.func218 #[.int .i64 (l0.length : Int), .int .i64 a1, .int .i64 a2] ?_; (with_reducible refine (spec_rsLength.calls (l0.length : Int) a1 a2 t284 _ A4.out).mono ?_); rintro e w' ⟨rfl, ⟨nd, rfl⟩⟩; refine ⟨_, rfl, ?_⟩))
   (try (rw [drewN_self wr]; generalize hq_ : World.drewN wr _ = wr; have n0_ : Aside0 (Kd.R (Kd.int .i64) 3 wr w.heap.size (fun _ => True) u7 x7_1) := ⟨by rw [← hq_]; exact (xR HO_7.out)⟩; have n1_ : Aside0 (Below w.heap.size w wr) := ⟨by rw [← hq_]; exact (xB HB.out)⟩; clear HO_7 HB hq_; have HO_7 := n0_; have HB := n1_; clear n0_ n1_))
   have n0_ := Aside0.mk (Kd.R_drew HO_7.out)
   have n1_ := Aside0.mk (below_drew1 HB.out)
   clear HO_7
   clear HB
   have HO_7 := n0_
   have HB := n1_
   clear n0_ n1_
   refine start_ (n := 12) (S := fun w' => True) (ds := []) x5a0 (by kernel_rfl) rfl rfl trivial (fun hHeld => ?_); refine with_tabW spec_rsLine.tab5 spec_rsLine.bits5 (fun HT_ HW_ => ?_)
   generalize wr.drew = w14 at HO_7 HB hHeld ⊢
   refine pure_ (i := 0) (N := some 21) (v := ?_) (a' := ?_) x5a1 rfl rfl (any_of HT_.out (by kernel_rfl)) (fun _ _ _ h => h) (Or.inl ⟨by rfl, ?_⟩) ?_ ?_; rotate_left; (intro w'; go_simp; with_reducible rfl); rotate_left; exact xE
   refine pure_ (i := 1) (N := some 22) (v := ?_) (a' := ?_) x5a2 rfl rfl (any_of HT_.out (by kernel_rfl)) (fun _ _ _ h => h) (Or.inl ⟨by rfl, ?_⟩) ?_ ?_; rotate_left; (intro w'; go_simp; with_reducible rfl); rotate_left; exact xE
   refine pure_ (i := 2) (N := some 23) (v := ?_) (a' := ?_) x5a3 rfl rfl (any_of HT_.out (by kernel_rfl)) (fun _ _ _ h => h) (Or.inl ⟨by rfl, ?_⟩) ?_ ?_; rotate_left; (intro w'; go_simp; with_reducible rfl); rotate_left; exact xE
   refine pure_ (i := 3) (N := some 24) (v := ?_) (a' := ?_) x5a4 rfl rfl (any_of HT_.out (by kernel_rfl)) (fun _ _ _ h => h) (Or.inl ⟨by rfl, ?_⟩) ?_ ?_; rotate_left; (intro w'; go_simp; with_reducible rfl); rotate_left; exact xE
   refine pure_ (i := 4) (N := some 25) (v := ?_) (a' := ?_) x5a5 rfl rfl (any_of HT_.out (by kernel_rfl)) (fun _ _ _ h => h) (Or.inl ⟨by rfl, ?_⟩) ?_ ?_; rotate_left; (intro w'; go_simp; with_reducible rfl); rotate_left; exact xE
   refine pure_ (i := 5) (N := some 26) (v := ?_) (a' := ?_) x5a6 rfl rfl (any_of HT_.out (by kernel_rfl)) (fun _ _ _ h => h) (Or.inl ⟨by rfl, ?_⟩) ?_ ?_; rotate_left; (intro w'; go_simp; with_reducible rfl); rotate_left; exact xE
   refine pure_ (i := 6) (N := some 27) (v := ?_) (a' := ?_) x5a7 rfl rfl (any_of HT_.out (by kernel_rfl)) (fun _ _ _ h => h) (Or.inl ⟨by rfl, ?_⟩) ?_ ?_; rotate_left; (intro w'; go_simp; with_reducible rfl); rotate_left; exact xE
   refine pure_ (i := 7) (N := some 28) (v := ?_) (a' := ?_) x5a8 rfl rfl (any_of HT_.out (by kernel_rfl)) (fun _ _ _ h => h) (Or.inl ⟨by rfl, ?_⟩) ?_ ?_; rotate_left; (intro w'; go_simp; with_reducible rfl); rotate_left; exact xE
   refine pure_ (i := 8) (N := some 29) (v := ?_) (a' := ?_) x5a9 rfl rfl (any_of HT_.out (by kernel_rfl)) (fun _ _ _ h => h) (Or.inl ⟨by rfl, ?_⟩) ?_ ?_; rotate_left; (intro w'; go_simp; with_reducible rfl); rotate_left; exact xE
   refine pure_ (i := 9) (N := some 30) (v := ?_) (a' := ?_) x5a10 rfl rfl (any_of HT_.out (by kernel_rfl)) (fun _ _ _ h => h) (Or.inl ⟨by rfl, ?_⟩) ?_ ?_; rotate_left; (intro w'; go_simp; with_reducible rfl); rotate_left; exact xE
   refine pure_ (i := 10) (N := some 9) (v := ?_) (a' := ?_) x5a11 rfl rfl (any_of HT_.out (by kernel_rfl)) (fun _ _ _ h => h) (Or.inl ⟨by rfl, ?_⟩) ?_ ?_; rotate_left; (intro w'; go_simp; with_reducible rfl); rotate_left; exact xE
   refine pure_ (i := 11) (N := some 10) (v := ?_) (a' := ?_) x5a12 rfl rfl (any_of HT_.out (by kernel_rfl)) (fun _ _ _ h => h) (Or.inl ⟨by rfl, ?_⟩) ?_ ?_; rotate_left; (intro w'; go_simp; with_reducible rfl); rotate_left; exact xE
   refine done_ (done_of HT_.out (by kernel_rfl)) ?_
   try go_wp2
   have n0_ := Aside0.mk (Kd.R_drew HO_7.out)
   have n1_ := Aside0.mk (below_drew1 HB.out)
   clear HO_7
   clear HB
   have HO_7 := n0_
   have HB := n1_
   clear n0_ n1_
   have p285 : 0 ≤ ((ji8) : Int) := of_decide_eq_true (by first | (with_reducible assumption) | assumption | (rw [← hji8]; first | (with_reducible assumption) | assumption))
   have q285 : (ji8) < (l0.length : Int) := of_decide_eq_true (by first | (with_reducible assumption) | assumption | (rw [← hji8]; first | (with_reducible assumption) | assumption))
   obtain ⟨ad285, e285, hx285_0⟩ := Kd.at_int HR0.out (ji8) p285 q285
   have hw285_0 := hx285_0
   cases e285
   replace hx285_0 := (HB.out.cell (World.block_lt_of_cell? w _ hx285_0)).trans hx285_0
   replace p285 := eq_true p285
   replace q285 := eq_true q285
   have p286 : 0 ≤ ((ji11) : Int) := of_decide_eq_true (by first | (with_reducible assumption) | assumption | (rw [← hji11]; first | (with_reducible assumption) | assumption))
   have q286 : (ji11) < (l0.length : Int) := of_decide_eq_true (by first | (with_reducible assumption) | assumption | (rw [← hji11]; first | (with_reducible assumption) | assumption))
   obtain ⟨ad286, e286, hx286_0⟩ := Kd.at_int HR0.out (ji11) p286 q286
   have hw286_0 := hx286_0
   obtain rfl : ad285 = ad286 := (by injection e286)
   replace hx286_0 := (HB.out.cell (World.block_lt_of_cell? w _ hx286_0)).trans hx286_0
   replace p286 := eq_true p286
   replace q286 := eq_true q286
   refine start_ (n := 19) (S := fun w' => w'.cell? (ad285.add ((ji8)).toNat) = some (.int .i64 (rd l0 (ji8))) ∧ w'.cell? (ad285.add ((ji11)).toNat) = some (.int .i64 (rd l0 (ji11)))) (ds := []) x5a13 (by kernel_rfl) rfl rfl ⟨((HB.out.cell (World.block_lt_of_cell? w _ hw285_0)).trans hw285_0), ((HB.out.cell (World.block_lt_of_cell? w _ hw286_0)).trans hw286_0)⟩ (fun hHeld => ?_); refine with_tabW spec_rsLine.tab9 spec_rsLine.bits9 (fun HT_ HW_ => ?_)
   generalize w14.drew = w15 at HO_7 HB hx285_0 hx286_0 hHeld ⊢
   refine pure_ (i := 0) (N := some 39) (v := ?_) (a' := ?_) x5a14 rfl rfl (any_of HT_.out (by kernel_rfl)) (fun _ _ _ h => h) (Or.inl ⟨by rfl, ?_⟩) ?_ ?_; rotate_left; (intro w'; go_simp; with_reducible rfl); rotate_left; exact xE
   refine pure_ (i := 1) (N := some 40) (v := ?_) (a' := ?_) x5a15 rfl rfl (any_of HT_.out (by kernel_rfl)) (fun _ _ _ h => h) (Or.inl ⟨by rfl, ?_⟩) ?_ ?_; rotate_left; (intro w'; go_simp; with_reducible rfl); rotate_left; exact xE
   refine pure_ (i := 2) (N := some 41) (v := ?_) (a' := ?_) x5a16 rfl rfl (any_of HT_.out (by kernel_rfl)) (fun _ _ _ h => h) (Or.inl ⟨by rfl, ?_⟩) ?_ ?_; rotate_left; (intro w'; go_simp; with_reducible rfl); rotate_left; exact xE
   refine pure_ (i := 3) (N := some 42) (v := ?_) (a' := ?_) x5a17 rfl rfl (any_of HT_.out (by kernel_rfl)) (fun _ _ _ h => h) (Or.inl ⟨by rfl, ?_⟩) ?_ ?_; rotate_left; (intro w'; go_simp; with_reducible rfl); rotate_left; exact xE
   refine pure_ (i := 4) (N := some 43) (v := ?_) (a' := ?_) x5a18 rfl rfl (any_of HT_.out (by kernel_rfl)) (fun _ _ _ h => h) (Or.inl ⟨by rfl, ?_⟩) ?_ ?_; rotate_left; (intro w'; go_simp; with_reducible rfl); rotate_left; exact xE
   refine pure_ (i := 5) (N := some 44) (v := ?_) (a' := ?_) x5a19 rfl rfl (any_of HT_.out (by kernel_rfl)) (fun _ _ _ h => h) (Or.inl ⟨by rfl, ?_⟩) ?_ ?_; rotate_left; (intro w'; go_simp; with_reducible rfl); rotate_left; exact xE
   refine pure_ (i := 6) (N := some 45) (v := ?_) (a' := ?_) x5a20 rfl rfl (any_of HT_.out (by kernel_rfl)) (fun _ _ _ h => h) (Or.inl ⟨by rfl, ?_⟩) ?_ ?_; rotate_left; (intro w'; go_simp; with_reducible rfl); rotate_left; exact xE
   refine pure_ (i := 9) (N := some 48) (v := ?_) (a' := ?_) x5a21 rfl rfl (any_of HT_.out (by kernel_rfl)) (fun _ _ _ h => h) (Or.inl ⟨by rfl, ?_⟩) ?_ ?_; rotate_left; (intro w'; go_simp; with_reducible rfl); rotate_left; exact xE
   refine pure_ (i := 10) (N := some 49) (v := ?_) (a' := ?_) x5a22 rfl rfl (any_of HT_.out (by kernel_rfl)) (fun _ _ _ h => h) (Or.inl ⟨by rfl, ?_⟩) ?_ ?_; rotate_left; (intro w'; go_simp; with_reducible rfl); rotate_left; exact xE
   refine pure_ (i := 11) (N := some 50) (v := ?_) (a' := ?_) x5a23 rfl rfl (any_of HT_.out (by kernel_rfl)) (fun _ _ _ h => h) (Or.inl ⟨by rfl, ?_⟩) ?_ ?_; rotate_left; (intro w'; go_simp; with_reducible rfl); rotate_left; exact xE
   refine pure_ (i := 12) (N := some 51) (v := ?_) (a' := ?_) x5a24 rfl rfl (any_of HT_.out (by kernel_rfl)) (fun _ _ _ h => h) (Or.inl ⟨by rfl, ?_⟩) ?_ ?_; rotate_left; (intro w'; go_simp; with_reducible rfl); rotate_left; exact xE
   refine take_ (i := 7) (N := some 46) (v := ?_) (a' := ?_) x5a25 rfl rfl (take_ofW HT_.out HW_.out (by kernel_rfl)) (fun _ _ _ h => h) (Or.inl ⟨by rfl, ?_⟩) hHeld ?_ ?_
   rotate_left
   ·rintro w' ⟨s0, s1⟩
    go_simp
    with_reducible rfl
   rotate_left
   ·exact xE
   refine pure_ (i := 8) (N := some 47) (v := ?_) (a' := ?_) x5a26 rfl rfl (any_of HT_.out (by kernel_rfl)) (fun _ _ _ h => h) (Or.inl ⟨by rfl, ?_⟩) ?_ ?_; rotate_left; (intro w'; go_simp; with_reducible rfl); rotate_left; exact xE
   refine take_ (i := 13) (N := some 52) (v := ?_) (a' := ?_) x5a27 rfl rfl (take_ofW HT_.out HW_.out (by kernel_rfl)) (fun _ _ _ h => h) (Or.inl ⟨by rfl, ?_⟩) hHeld ?_ ?_
   rotate_left
   ·rintro w' ⟨s0, s1⟩
    go_simp
    with_reducible rfl
   rotate_left
   ·exact xE
   refine pure_ (i := 14) (N := some 53) (v := ?_) (a' := ?_) x5a28 rfl rfl (any_of HT_.out (by kernel_rfl)) (fun _ _ _ h => h) (Or.inl ⟨by rfl, ?_⟩) ?_ ?_; rotate_left; (intro w'; go_simp; with_reducible rfl); rotate_left; exact xE
   refine pure_ (i := 15) (N := some 54) (v := ?_) (a' := ?_) x5a29 rfl rfl (any_of HT_.out (by kernel_rfl)) (fun _ _ _ h => h) (Or.inl ⟨by rfl, ?_⟩) ?_ ?_; rotate_left; (intro w'; go_simp; with_reducible rfl); rotate_left; exact xE
   refine one_ (i := 16) (N := some 55) x5a30 rfl rfl (one_of HT_.out (by kernel_rfl)) (by decide) (fun K hK => ?_)
   refine value_ (w1 := ?_) (v := ?_) (by rfl) rfl ?_ ?_
   rotate_left 2
   ·go_simp
    constructor
    ·rfl
    ·rfl
   refine hK.out _ _ ⟨(World.cell?_alloc_lt _ _ _ (World.block_lt_of_cell? _ _ (((HB.out.cell (World.block_lt_of_cell? w _ hw285_0)).trans hw285_0)))).trans (((HB.out.cell (World.block_lt_of_cell? w _ hw285_0)).trans hw285_0)), (World.cell?_alloc_lt _ _ _ (World.block_lt_of_cell? _ _ (((HB.out.cell (World.block_lt_of_cell? w _ hw286_0)).trans hw286_0)))).trans (((HB.out.cell (World.block_lt_of_cell? w _ hw286_0)).trans hw286_0))⟩ (fun hHeld => ?_)
   clear hK K
   refine norm_ (a' := ?_) ?_ ?_
   rotate_left
   ·show Act.put _ (some 55) _ = _
    simp only [Act.put, List.setIfInBounds_toArray, List.set_cons_zero, List.set_cons_succ, i64_w, i32_w]
    rfl
   refine one_ (i := 17) (N := some 56) x5a31 rfl rfl (one_of HT_.out (by kernel_rfl)) (by decide) (fun K hK => ?_)
   refine Kd.R_append_step (Kd.int .i64) (w0 := w) w.heap.size (by rfl) (.tmp 39) (.tmp 55) 24 3 (.int .i64 0) 8 rfl Try.underlying24 info3 rfl (by decide) (by omega) u7 x7_1 (wrap64 ((wrap64 ((wrap64 (a1 - (Int.tmod (wrap64 (x8_1 * a2)) a1))) * (rd l0 (ji8)))) + (wrap64 ((Int.tmod (wrap64 (x8_1 * a2)) a1) * (rd l0 (ji11)))))) [.int .i64 (wrap64 ((wrap64 ((wrap64 (a1 - (Int.tmod (wrap64 (x8_1 * a2)) a1))) * (rd l0 (ji8)))) + (wrap64 ((Int.tmod (wrap64 (x8_1 * a2)) a1) * (rd l0 (ji11))))))] (fun _ => True) (fun _ => False) rfl rfl ?aP (fun _ hk => hk.elim) ?aF ?aO ?aB ?aS ?aL ?_
   (case aP => exact rfl)
   (case aB => exact (xB HB.out))
   (case aF => exact (fun _ _ => trivial))
   (case aO => exact (xR HO_7.out))
   (case aS => exact (below_size (xB HB.out)))
   (case aL => have := LMc13.out; omega)
   intro v288 w16 ho hb hg hat
   rw [← Ny287.out] at ho
   have n0_ := Aside0.mk (hb)
   have n1_ := Aside0.mk (ho)
   clear HB
   clear HO_7
   have HB := n0_
   have HO289 := n1_
   clear n0_ n1_
   clear ho hb hg hat
   refine hK.out _ _ ⟨((HB.out.cell (World.block_lt_of_cell? w _ hw285_0)).trans hw285_0), ((HB.out.cell (World.block_lt_of_cell? w _ hw286_0)).trans hw286_0)⟩ (fun hHeld => ?_)
   clear hK K
   refine norm_ (a' := ?_) ?_ ?_
   rotate_left
   ·show Act.put _ (some 56) _ = _
    simp only [Act.put, List.setIfInBounds_toArray, List.set_cons_zero, List.set_cons_succ, i64_w, i32_w]
    rfl
   refine pure_ (i := 18) (N := some 7) (v := ?_) (a' := ?_) x5a32 rfl rfl (any_of HT_.out (by kernel_rfl)) (fun _ _ _ h => h) (Or.inl ⟨by rfl, ?_⟩) ?_ ?_; rotate_left; (intro w'; go_simp; with_reducible rfl); rotate_left; exact xE
   refine done_ (done_of HT_.out (by kernel_rfl)) ?_
   try go_wp2
   go_roundg k1
   case measure => have := HK1.out; omega
   case rel => exact ⟨(y287), (wrap64 (x8_1 + 1)), (by first | rfl | (simp; done) | (simp [*]; done)), H', ⟨by have := HK1.out; omega⟩, ⟨xR HO289.out⟩, ⟨xB HB.out⟩⟩
/-! ### spec_LineSamples: function 20 -/
def spec_LineSamples.f (k : Nat) (l0 : List Int) (a1 : Int) (a2 : Int) : Option (List Int × Bool) := (spec_rsGood.f k l0 a1 a2).bind fun t295 => (if t295 = true then ((spec_rsLine.f k l0 a1 a2).bind fun t296 => ((spec_wdIf.f k t296).bind fun bt299 => (some (bt299.1, bt299.2)))) else (some (([] : List Int), false)))
theorem spec_LineSamples.mono : ∀ a0 a1 a2 k, LeO (spec_LineSamples.f k a0 a1 a2) (spec_LineSamples.f (k + 1) a0 a1 a2) := by
 intro a0 a1 a2 k
 have m0 := @spec_rsGood.mono
 have m1 := @spec_rsLine.mono
 have m2 := @spec_wdIf.mono
 unfold spec_LineSamples.f
 exact xM
set_option maxHeartbeats 8000000 in
set_option maxRecDepth 100000 in
theorem spec_LineSamples.calls (k : Nat) (A0 : Option Addr) (c0 : Nat) (l0 : List Int) (a1 : Int) (a2 : Int) (r1 : List Int) (r2 : Bool) (w : World) (hr0 : Kd.C (Kd.int .i64) w A0 l0.length l0) (hc0 : l0.length ≤ c0) (h : spec_LineSamples.f k l0 a1 a2 = some (r1, r2)) :
  Calls Try.prog 20 #[.slice A0 l0.length c0, .int .i64 a1, .int .i64 a2] w fun e w' => ∃ v0_ : Value, e = .returned (.tuple #[v0_, .bool r2]) ∧ Kd.R (Kd.int .i64) 3 w' w.heap.size (fun _ => True) v0_ r1 ∧ Below w.heap.size w w' := by
 have HR0 := Aside0.mk hr0
 have HC0 := Aside0.mk hc0
 clear hr0 hc0
 have HB := Aside0.mk (Below.refl w.heap.size w)
 have H : ((spec_rsGood.f k l0 a1 a2).bind fun t295 => (if t295 = true then ((spec_rsLine.f k l0 a1 a2).bind fun t296 => ((spec_wdIf.f k t296).bind fun bt299 => (some (bt299.1, bt299.2)))) else (some (([] : List Int), false)))) = some (r1, r2) := h
 clear h
 obtain ⟨t295, A4, H⟩ := xO H
 (try dsimp only at H)
 by_cases c5 : t295 = true
 rotate_left
 ·replace c5 := Bool.eq_false_iff.mpr c5
  subst c5
  rw [if_neg (show ¬ (false = true) by decide)] at H
  simp only [Option.some.injEq, Prod.mk.injEq] at H
  obtain ⟨rfl, rfl⟩ := H
  go_enter Try.func20, Try.ntmps20
  go_wp2_with (first | (refine xG (some 11) Try.func217 #[.slice A0 l0.length c0, .int .i64 a1, .int .i64 a2] ?_; (with_reducible refine (spec_rsGood.calls k _ _ l0 a1 a2 false _ ?side1 ?side2 A4.out).mono ?_); (case side1 => exact xC HR0.out); (case side2 => exact HC0.out); rintro e w' ⟨rfl, ⟨nd, rfl⟩⟩; refine ⟨_, rfl, ?_⟩))
  go_ret2
  exact ⟨_, by first | rfl | (simp [errW_none, errW_some] <;> rfl) | (simp [*, errW_none, errW_some] <;> rfl), by first | exact Kd.R_nil _ _ _ _ _ | exact Kd.N_nil _ _ _ _ _ | exact Kd.V_nil _ _ _ _ _ | exact Kd.Q_nil _ _ _ _ _ | exact Kd.S_nil _ _ _ _ _, xB HB.out⟩

 subst c5
 rw [if_pos rfl] at H
 obtain ⟨t296, A6, H⟩ := xO H
 (try dsimp only at H)
 replace H := Option.bind_eq_some_iff.mp H
 obtain ⟨⟨t299, t302⟩, A70, H⟩ := H
 (try dsimp only at H)
 have A7 := Aside0.mk A70
 clear A70
 simp only [Option.some.injEq, Prod.mk.injEq] at H
 obtain ⟨rfl, rfl⟩ := H
 go_enter Try.func20, Try.ntmps20
 go_wp2_with (first | (refine xG (some 11) Try.func217 #[.slice A0 l0.length c0, .int .i64 a1, .int .i64 a2] ?_; (with_reducible refine (spec_rsGood.calls k _ _ l0 a1 a2 true _ ?side1 ?side2 A4.out).mono ?_); (case side1 => exact xC HR0.out); (case side2 => exact HC0.out); rintro e w' ⟨rfl, ⟨nd, rfl⟩⟩; refine ⟨_, rfl, ?_⟩) | (refine xG (some 16) Try.func222 #[.slice A0 l0.length c0, .int .i64 a1, .int .i64 a2] ?_; (with_reducible refine (spec_rsLine.calls k _ _ l0 a1 a2 t296 _ ?side1 ?side2 A6.out).mono ?_); (case side1 => exact xC HR0.out); (case side2 => exact HC0.out); rintro e w8 ⟨v297, rfl, ho0, hb⟩; refine ⟨_, rfl, ?_⟩; have HO298 := Aside0.mk (Kd.R_lower ho0 (below_size (xB HB.out))); replace HB := Aside0.mk (below_step (xB HB.out) hb); (try clear hb); (try clear hb2); (try clear hk); (try clear hi); (try clear ho0); obtain ⟨Ao9, co9, eo9⟩ := Kd.R_slice HO298.out; subst eo9) | (refine xG (some 17) Try.func219 #[.slice Ao9 t296.length co9] ?_; (with_reducible refine (spec_wdIf.calls k (fun k_ => some k_ = (.slice Ao9 t296.length co9 : Value).ownBlock) (.slice Ao9 t296.length co9) t296 t299 t302 w _ ?side1 ?side2 A7.out).mono ?_); (case side1 => repeat (first | (with_reducible first | exact HB.out | apply below_alloc | apply pw_below_drewN | apply below_drew1) | exact HB.out)); (case side2 => exact Kd.R_tight rfl HO298.out); rintro e w10 ⟨v300, rfl, ho0, hb, hkp⟩; refine ⟨_, rfl, ?_⟩; have HO301 := Aside0.mk (Kd.R_mono (ok' := fun k_ => True) ho0 (fun k_ hk_ => trivial)); replace HB := Aside0.mk (hb); clear HO298; (try clear hb); (try clear hkp); (try clear ho0)))
 go_ret2
 exact ⟨_, by first | rfl | (simp [errW_none, errW_some] <;> rfl) | (simp [*, errW_none, errW_some] <;> rfl), xR HO301.out, xB HB.out⟩
end Go.Proofs.Ytjplcongellcmaa.PFnRatesChanged
