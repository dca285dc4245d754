/- What each Go function that the statement FnPhasesWork reaches answers, proved call by call. No condition beyond those that the theorems print. (Written by wip/tools/xprint.py of this repo, over the kit's print.) -/
import Derived.Test.YtjplcongellcmaaPFnPhasesWorkx0
import Derived.Test.YtjplcongellcmaaPFnPhasesWorkx1
namespace Go.Proofs.Ytjplcongellcmaa.PFnPhasesWork
open Go.RowKit Go.Proofs.YtjplcongellcmaaW.PrintWords Go.Proofs.YtjplcongellcmaaW.PrintLast Go.Proofs.YtjplcongellcmaaW.PrintMore
attribute [local go_sem] max2_int min2_int max_two min_two max_three min_three max_four min_four   -- for this text's walks alone
set_option linter.unusedVariables false
set_option linter.unusedSimpArgs false
def x12a0 : Array Bool := #[false, false, false, false, false, false, false, false, false, false, false, false, false, false, false, false, false, false, false, false, false, false, false, false, false, false, false, false, false]
def x12a1 : Array Bool := #[true, false, false, false, false, false, false, false, false, false, false, false, false, false, false, false, false, false, false, false, false, false, false, false, false, false, false, false, false]
def x12a2 : Array Bool := #[true, true, false, false, false, false, false, false, false, false, false, false, false, false, false, false, false, false, false, false, false, false, false, false, false, false, false, false, false]
def x12a3 : Array Bool := #[true, true, true, false, false, false, false, false, false, false, false, false, false, false, false, false, false, false, false, false, false, false, false, false, false, false, false, false, false]
def x12a4 : Array Bool := #[true, true, true, true, false, false, false, false, false, false, false, false, false, false, false, false, false, false, false, false, false, false, false, false, false, false, false, false, false]
def x12a5 : Array Bool := #[true, true, true, true, false, true, false, false, false, false, false, false, false, false, false, false, false, false, false, false, false, false, false, false, false, false, false, false, false]
def x12a6 : Array Bool := #[true, true, true, true, false, true, true, false, false, false, false, false, false, false, false, false, false, false, false, false, false, false, false, false, false, false, false, false, false]
def x12a7 : Array Bool := #[true, true, true, true, false, true, true, true, false, false, false, false, false, false, false, false, false, false, false, false, false, false, false, false, false, false, false, false, false]
def x12a8 : Array Bool := #[true, true, true, true, false, true, true, true, true, false, false, false, false, false, false, false, false, false, false, false, false, false, false, false, false, false, false, false, false]
def x12a9 : Array Bool := #[true, true, true, true, false, true, true, true, true, false, false, false, false, false, true, false, false, false, false, false, false, false, false, false, false, false, false, false, false]
def x12a10 : Array Bool := #[true, true, true, true, false, true, true, true, true, false, false, false, false, false, true, true, false, false, false, false, false, false, false, false, false, false, false, false, false]
def x12a11 : Array Bool := #[true, true, true, true, false, true, true, true, true, false, false, false, false, false, true, true, true, false, false, false, false, false, false, false, false, false, false, false, false]
def x12a12 : Array Bool := #[true, true, true, true, false, true, true, true, true, false, false, false, false, false, true, true, true, true, false, false, false, false, false, false, false, false, false, false, false]
def x12a13 : Array Bool := #[true, true, true, true, false, true, true, true, true, false, false, false, false, false, true, true, true, true, false, true, false, false, false, false, false, false, false, false, false]
def x12a14 : Array Bool := #[true, true, true, true, false, true, true, true, true, false, false, false, false, false, true, true, true, true, false, true, true, false, false, false, false, false, false, false, false]
def x12a15 : Array Bool := #[true, true, true, true, false, true, true, true, true, false, false, false, false, false, true, true, true, true, false, true, true, true, false, false, false, false, false, false, false]
def x12a16 : Array Bool := #[true, true, true, true, false, true, true, true, true, false, false, false, false, false, true, true, true, true, false, true, true, true, true, false, false, false, false, false, false]
def x12a17 : Array Bool := #[true, true, true, true, true, true, true, true, true, false, false, false, false, false, true, true, true, true, false, true, true, true, true, false, false, false, false, false, false]
def x12a18 : Array Bool := #[true, true, true, true, true, true, true, true, true, true, false, false, false, false, true, true, true, true, false, true, true, true, true, false, false, false, false, false, false]
def x12a19 : Array Bool := #[true, true, true, true, true, true, true, true, true, true, true, false, false, false, true, true, true, true, false, true, true, true, true, false, false, false, false, false, false]
def x12a20 : Array Bool := #[true, true, true, true, true, true, true, true, true, true, true, true, false, false, true, true, true, true, false, true, true, true, true, false, false, false, false, false, false]
def x12a21 : Array Bool := #[true, true, true, true, true, true, true, true, true, true, true, true, false, false, true, true, true, true, true, true, true, true, true, false, false, false, false, false, false]
def x12a22 : Array Bool := #[true, true, true, true, true, true, true, true, true, true, true, true, false, false, true, true, true, true, true, true, true, true, true, true, false, false, false, false, false]
def x12a23 : Array Bool := #[true, true, true, true, true, true, true, true, true, true, true, true, false, false, true, true, true, true, true, true, true, true, true, true, true, false, false, false, false]
def x12a24 : Array Bool := #[true, true, true, true, true, true, true, true, true, true, true, true, true, true, true, true, true, true, true, true, true, true, true, true, true, true, false, false, false]
def x12a25 : Array Bool := #[true, true, true, true, true, true, true, true, true, true, true, true, true, false, true, true, true, true, true, true, true, true, true, true, true, false, false, false, false]
def x12a26 : Array Bool := #[true, true, true, true, true, true, true, true, true, true, true, true, false, false, true, true, true, true, true, true, true, true, true, true, true, true, false, false, false]
def x12a27 : Array Bool := #[true, true, true, true, true, true, true, true, true, true, true, true, true, true, true, true, true, true, true, true, true, true, true, true, true, false, false, false, false]
def x12a28 : Array Bool := #[true, true, true, true, true, true, true, true, true, true, true, true, true, false, true, true, true, true, true, true, true, true, true, true, true, true, false, false, false]
def x12a29 : Array Bool := #[true, true, true, true, true, true, true, true, true, true, true, true, true, true, true, true, true, true, true, true, true, true, true, true, true, true, true, false, false]
def x12a30 : Array Bool := #[true, true, true, true, true, true, true, true, true, true, true, true, true, true, true, true, true, true, true, true, true, true, true, true, true, true, true, true, false]
def x12a31 : Array Bool := #[true, true, true, true, true, true, true, true, true, true, true, true, true, true, true, true, true, true, true, true, true, true, true, true, true, true, true, true, true]

/-! ### impl_TwoBands: function 176 -/
mutual
def impl_TwoBands.j0 : Nat → List Int → Bool → Option (List Int × List Int × Bool)
 | 0, _, _ => none
 | k + 1, x0, x16 => if x16 = true then (some (([] : List Int), ([] : List Int), false)) else (impl_TwoBands.l0 k x0 (([] : List Int)) (([] : List Int)) 0)
def impl_TwoBands.l0 : Nat → List Int → List Int → List Int → Int → Option (List Int × List Int × Bool)
 | 0, _, _, _, _ => none
 | k + 1, x0, x5, x6, x7 => if x7 < (x0.length : Int) then (if 0 ≤ x7 then (if 0 ≤ (wrap64 (x7 + 1)) then (if (wrap64 (x7 + 1)) < (x0.length : Int) then ((some (([(wrap64 ((rd x0 x7) + (rd x0 (wrap64 (x7 + 1))))) / 2] : List Int) : List Int)).bind fun y573 => (if x5.length + y573.length < 17592186044416 then ((some (([wrap64 ((rd x0 x7) - (rd x0 (wrap64 (x7 + 1))))] : List Int) : List Int)).bind fun y581 => (if x6.length + y581.length < 17592186044416 then (impl_TwoBands.l0 k x0 (x5 ++ y573) (x6 ++ y581) (wrap64 (x7 + 2))) else (none))) else (none))) else (none)) else (none)) else (none)) else ((impl_isSignal.f k x6).bind fun t587 => (if t587 = true then (some (x5, x6, true)) else (some (([] : List Int), ([] : List Int), false))))
end
def impl_TwoBands.f (k : Nat) (l0 : List Int) : Option (List Int × List Int × Bool) := (impl_isSignal.f k l0).bind fun t564 => (if t564 = true then (impl_TwoBands.j0 k l0 (((l0.length : Int) % 2) != 0)) else (impl_TwoBands.j0 k l0 true))
theorem impl_TwoBands.mono_l : ∀ k, (∀ y0 y1, LeO (impl_TwoBands.j0 k y0 y1) (impl_TwoBands.j0 (k + 1) y0 y1)) ∧ (∀ y0 y1 y2 y3, LeO (impl_TwoBands.l0 k y0 y1 y2 y3) (impl_TwoBands.l0 (k + 1) y0 y1 y2 y3))
 | 0 => ⟨fun _ _ r h => by simp [impl_TwoBands.j0] at h, fun _ _ _ _ r h => by simp [impl_TwoBands.l0] at h⟩
 | k + 1 => by
  obtain ⟨ih0, ih1⟩ := impl_TwoBands.mono_l k
  have m0 := @impl_isSignal.mono
  refine ⟨?_, ?_⟩ <;> intros
  ·unfold impl_TwoBands.j0; exact xM
  ·unfold impl_TwoBands.l0; exact xM
theorem impl_TwoBands.mono : ∀ a0 k, LeO (impl_TwoBands.f k a0) (impl_TwoBands.f (k + 1) a0) := by
 intro a0 k
 obtain ⟨ih0, ih1⟩ := impl_TwoBands.mono_l k
 have m0 := @impl_isSignal.mono
 unfold impl_TwoBands.f
 exact xM
def impl_TwoBands.T7 : Bool × List (List Nat × List Nat) := (true, [([], []), ([], []), ([], []), ([1, 2], [1, 2]), ([3], [3]), ([], []), ([], []), ([6], [6]), ([5, 7], [5, 7]), ([8], [8]), ([4, 9], [4, 9]), ([10], [10]), ([11], [11]), ([0, 12], [0, 12]), ([], []), ([], []), ([], []), ([15, 16], [15, 16]), ([17], [17]), ([], []), ([], []), ([20], [20]), ([19, 21], [19, 21]), ([22], [22]), ([18, 23], [18, 23]), ([24], [24]), ([14, 25, 13], [14, 25]), ([13, 26, 0, 1, 2, 3, 4, 5, 6, 7, 8, 9, 10, 11, 12, 13], [0, 13]), ([26, 27, 0, 1, 2, 3, 4, 5, 6, 7, 8, 9, 10, 11, 12, 13, 14, 15, 16, 17, 18, 19, 20, 21, 22, 23, 24, 25, 26, 27], [14, 26])])
def impl_TwoBands.B7 : List Nat := [0, 0, 0, 6, 14, 0, 0, 64, 224, 480, 1022, 2046, 4094, 8191, 0, 0, 0, 98304, 229376, 0, 0, 1048576, 3670016, 7864320, 16744448, 33521664, 67108863, 134217727, 268435455]
theorem impl_TwoBands.tab7 : rtab .any (opsOf Try.f176 7) = impl_TwoBands.T7 := by kernel_rfl
theorem impl_TwoBands.bits7 : waitsOk impl_TwoBands.T7.2 impl_TwoBands.B7 = true := by kernel_rfl
set_option maxHeartbeats 8000000 in
set_option maxRecDepth 100000 in
theorem impl_TwoBands.calls (k : Nat) (A0 : Option Addr) (c0 : Nat) (l0 : List Int) (r1 : List Int) (r2 : List Int) (r3 : Bool) (w : World) (hr0 : Kd.C (Kd.int .i64) w A0 l0.length l0) (hc0 : l0.length ≤ c0) (h : impl_TwoBands.f k l0 = some (r1, r2, r3)) :
  Calls Try.prog 176 #[.slice A0 l0.length c0] w fun e w' => ∃ v0_ v1_ : Value, e = .returned (.tuple #[v0_, v1_, .bool r3]) ∧ Kd.R (Kd.int .i64) 3 w' w.heap.size (fun k_ => some k_ ≠ (v1_ : Value).ownBlock) v0_ r1 ∧ Kd.R (Kd.int .i64) 3 w' w.heap.size (fun k_ => some k_ ≠ (v0_ : Value).ownBlock) v1_ r2 ∧ Below w.heap.size w w' := by
 have HR0 := Aside0.mk hr0
 have HC0 := Aside0.mk hc0
 clear hr0 hc0
 have HB := Aside0.mk (Below.refl w.heap.size w)
 have H : ((impl_isSignal.f k l0).bind fun t564 => (if t564 = true then (impl_TwoBands.j0 k l0 (((l0.length : Int) % 2) != 0)) else (impl_TwoBands.j0 k l0 true))) = some (r1, r2, r3) := h
 clear h
 have HC2 := Aside0.mk H
 clear H
 go_enter Try.func176, Try.ntmps176
 go_upto_region 1 with (fail)
 go_cut [16] (fun v16 wc => ∃ (kq : Nat) (x16_1 : Bool), v16 = .bool x16_1 ∧ Aside0 (impl_TwoBands.j0 kq l0 x16_1 = some (r1, r2, r3)) ∧ Aside0 (kq ≤ k) ∧ Aside0 (Below w.heap.size w wc))
 case first => as_aux_lemma =>
  have H := HC2.out
  clear HC2
  obtain ⟨t564, A3, H⟩ := xO H
  (try dsimp only at H)
  by_cases c4 : t564 = true
  ·subst c4
   rw [if_pos rfl] at H
   have H' := Aside0.mk H
   clear H
   go_wp2_with (first | (refine xG (some 9) Try.func233 #[.slice A0 l0.length c0] ?_; (with_reducible refine (impl_isSignal.calls k _ _ l0 true _ ?side1 ?side2 A3.out).mono ?_); (case side1 => exact xC (Kd.C_below HR0.out HB.out)); (case side2 => exact HC0.out); rintro e w' ⟨rfl, ⟨nd, rfl⟩⟩; refine ⟨_, rfl, ?_⟩))
   go_meet
   case rel => exact ⟨_, ((((l0.length : Int) % 2) != 0)), (by first | rfl | (simp; done) | (simp [*]; done)), H', ⟨by first | omega | exact Nat.le_refl _⟩, ⟨xB HB.out⟩⟩
  replace c4 := Bool.eq_false_iff.mpr c4
  subst c4
  rw [if_neg (show ¬ (false = true) by decide)] at H
  have H' := Aside0.mk H
  clear H
  go_wp2_with (first | (refine xG (some 9) Try.func233 #[.slice A0 l0.length c0] ?_; (with_reducible refine (impl_isSignal.calls k _ _ l0 false _ ?side1 ?side2 A3.out).mono ?_); (case side1 => exact xC (Kd.C_below HR0.out HB.out)); (case side2 => exact HC0.out); rintro e w' ⟨rfl, ⟨nd, rfl⟩⟩; refine ⟨_, rfl, ?_⟩))
  go_meet
  case rel => exact ⟨_, (true), (by first | rfl | (simp; done) | (simp [*]; done)), H', ⟨by first | omega | exact Nat.le_refl _⟩, ⟨xB HB.out⟩⟩
 case rest => as_aux_lemma =>
  clear HC2
  obtain ⟨kq, x16_1, rfl, HA, HJ1, HB⟩ := hcut
  cases kq with
  | zero => exact absurd HA.out (by simp [impl_TwoBands.j0])
  | succ kj1 =>
   have H := HA.out
   clear HA
   simp only [impl_TwoBands.j0] at H
   by_cases c5 : x16_1 = true
   ·subst c5
    rw [if_pos rfl] at H
    simp only [Option.some.injEq, Prod.mk.injEq] at H
    obtain ⟨rfl, rfl, rfl⟩ := H
    go_wp2
    go_ret3
    exact ⟨_, _, by first | rfl | (simp [errW_none, errW_some] <;> rfl) | (simp [*, errW_none, errW_some] <;> rfl), by first | exact Kd.R_nil _ _ _ _ _ | exact Kd.N_nil _ _ _ _ _ | exact Kd.V_nil _ _ _ _ _ | exact Kd.Q_nil _ _ _ _ _ | exact Kd.S_nil _ _ _ _ _, by first | exact Kd.R_nil _ _ _ _ _ | exact Kd.N_nil _ _ _ _ _ | exact Kd.V_nil _ _ _ _ _ | exact Kd.Q_nil _ _ _ _ _ | exact Kd.S_nil _ _ _ _ _, xB HB.out⟩
   replace c5 := Bool.eq_false_iff.mpr c5
   subst c5
   rw [if_neg (show ¬ (false = true) by decide)] at H
   obtain ⟨y565, hy565⟩ : ∃ y_ : List Int, y_ = (([] : List Int)) := ⟨_, rfl⟩
   replace H : (impl_TwoBands.l0 kj1 l0 y565 (([] : List Int)) 0) = some (r1, r2, r3) := by first | (rw [hy565]; with_reducible exact H) | (have H2_ := (Option.bind_some _ _).symm.trans H; rw [hy565]; with_reducible exact H2_) | (have H2_ := (Option.bind_some _ _).symm.trans H; with_reducible exact H2_) | with_reducible exact H | (rw [hy565]; exact H) | exact H
   have Ny565 := Aside0.mk hy565
   clear hy565
   obtain ⟨y568, hy568⟩ : ∃ y_ : List Int, y_ = (([] : List Int)) := ⟨_, rfl⟩
   replace H : (impl_TwoBands.l0 kj1 l0 y565 y568 0) = some (r1, r2, r3) := by first | (rw [hy568]; with_reducible exact H) | (have H2_ := (Option.bind_some _ _).symm.trans H; rw [hy568]; with_reducible exact H2_) | (have H2_ := (Option.bind_some _ _).symm.trans H; with_reducible exact H2_) | with_reducible exact H | (rw [hy568]; exact H) | exact H
   have Ny568 := Aside0.mk hy568
   clear hy568
   have H' := Aside0.mk H
   clear H
   go_wp2_with (first | ((with_reducible refine gate_dst (N := 17) rfl ?_); (try (refine gate_guard (by rfl) ?_; dsimp only)); refine Kd.R_lit (Kd.int .i64) _ 3 ?hg (N := 17) ?hd (xs := ([] : List Int)) (inner := []) (ok := fun _ => True) (okp := fun _ => True) ?hr ?hp (fun _ hk => hk) trivial (Below.refl _ _) (Nat.le_refl _) (by simp) ?_; (case hd => rfl); (case hg => rfl); (case hr => first | (go_simp; done) | (go_simp; rfl)); (case hp => exact (Reps.none _ _)); intro v566 w6 ho7 hb hg_ hnew_; clear hg_ hnew_; (first | rw [← Ny565.out] at ho7 | (simp only [Int.reduceToNat] at ho7; rw [← Ny565.out] at ho7)); have HO567 := Aside0.mk (Kd.R_lower ho7 (below_size (xB HB.out))); replace HB := Aside0.mk (below_step (xB HB.out) hb); clear hb ho7) | ((with_reducible refine gate_dst (N := 18) rfl ?_); (try (refine gate_guard (by rfl) ?_; dsimp only)); refine Kd.R_lit (Kd.int .i64) _ 3 ?hg (N := 18) ?hd (xs := ([] : List Int)) (inner := []) (ok := fun _ => True) (okp := fun _ => True) ?hr ?hp (fun _ hk => hk) trivial (Below.refl _ _) (Nat.le_refl _) (by simp) ?_; (case hd => rfl); (case hg => rfl); (case hr => first | (go_simp; done) | (go_simp; rfl)); (case hp => exact (Reps.none _ _)); intro v569 w8 ho9 hb hg_ hnew_; clear hg_ hnew_; (first | rw [← Ny568.out] at ho9 | (simp only [Int.reduceToNat] at ho9; rw [← Ny568.out] at ho9)); have HO570 := Aside0.mk (Kd.R_lower (Kd.R_new' ho9 (Kd.R_lt (xR HO567.out))) (below_size (xB HB.out))); replace HO567 := Aside0.mk (Kd.R_elder' (xR HO567.out) (Kd.R_base ho9) hb); replace HB := Aside0.mk (below_step (xB HB.out) hb); clear hb ho9))
   go_loopg [5, 6, 7] kj1 (fun kq v5 v6 v7 w' => ∃ (x5_2 : List Int) (x6_2 : List Int) (x7_2 : Int), v7 = .int .i64 x7_2 ∧ Aside0 (impl_TwoBands.l0 kq l0 x5_2 x6_2 x7_2 = some (r1, r2, r3)) ∧ Aside0 (kq ≤ kj1) ∧ Aside0 (Kd.R (Kd.int .i64) 3 w' w.heap.size (fun k_ => some k_ ≠ (v6 : Value).ownBlock) v5 x5_2) ∧ Aside0 (Kd.R (Kd.int .i64) 3 w' w.heap.size (fun k_ => some k_ ≠ (v5 : Value).ownBlock) v6 x6_2) ∧ Aside0 (Below w.heap.size w w'))
   case atStart => exact ⟨(y565), (y568), (0), (by first | rfl | (simp; done) | (simp [*]; done)), H', ⟨Nat.le_refl _⟩, ⟨by (with_reducible repeat (first | apply Kd.R_alloc | apply Kd.R_drewN | apply Kd.R_drew)); exact Kd.R_mono HO567.out (fun _ hk => hk.2)⟩, ⟨by (with_reducible repeat (first | apply Kd.R_alloc | apply Kd.R_drewN | apply Kd.R_drew)); exact Kd.R_mono HO570.out (fun _ hk => hk.2)⟩, ⟨xB HB.out⟩⟩
   case round =>
    clear H'
    try clear c5
    obtain ⟨x5_2, x6_2, x7_2, rfl, HA, HK2, HO_5, HO_6, HB⟩ := hrel
    cases gk with
    | zero => exact absurd HA.out (by simp [impl_TwoBands.l0])
    | succ k2 =>
     have H := HA.out
     clear HA
     simp only [impl_TwoBands.l0] at H
     by_cases c10 : x7_2 < (l0.length : Int)
     rotate_left
     ·rw [if_neg c10] at H
      have c10b0 : decide (x7_2 < (l0.length : Int)) = false := decide_eq_false c10
      clear c10
      obtain ⟨t587, A29, H⟩ := xO H
      (try dsimp only at H)
      by_cases c30 : t587 = true
      ·subst c30
       rw [if_pos rfl] at H
       simp only [Option.some.injEq, Prod.mk.injEq] at H
       obtain ⟨rfl, rfl, rfl⟩ := H
       obtain ⟨Ao31, co31, eo31⟩ := Kd.R_slice HO_6.out
       subst eo31
       go_wp2_with (first | (refine xG (some 53) Try.func233 #[.slice Ao31 x6_2.length co31] ?_; (with_reducible refine (impl_isSignal.calls k2 _ _ x6_2 true _ ?side1 ?side2 A29.out).mono ?_); (case side1 => exact xC ((Kd.R_reads' HO_6.out).2.2)); (case side2 => exact (Kd.R_reads' HO_6.out).2.1); rintro e w' ⟨rfl, ⟨nd, rfl⟩⟩; refine ⟨_, rfl, ?_⟩))
       go_ret3
       exact ⟨_, _, by first | rfl | (simp [errW_none, errW_some] <;> rfl) | (simp [*, errW_none, errW_some] <;> rfl), xR HO_5.out, xR HO_6.out, xB HB.out⟩
      replace c30 := Bool.eq_false_iff.mpr c30
      subst c30
      rw [if_neg (show ¬ (false = true) by decide)] at H
      simp only [Option.some.injEq, Prod.mk.injEq] at H
      obtain ⟨rfl, rfl, rfl⟩ := H
      obtain ⟨Ao32, co32, eo32⟩ := Kd.R_slice HO_6.out
      subst eo32
      go_wp2_with (first | (refine xG (some 53) Try.func233 #[.slice Ao32 x6_2.length co32] ?_; (with_reducible refine (impl_isSignal.calls k2 _ _ x6_2 false _ ?side1 ?side2 A29.out).mono ?_); (case side1 => exact xC ((Kd.R_reads' HO_6.out).2.2)); (case side2 => exact (Kd.R_reads' HO_6.out).2.1); rintro e w' ⟨rfl, ⟨nd, rfl⟩⟩; refine ⟨_, rfl, ?_⟩))
      go_ret3
      exact ⟨_, _, by first | rfl | (simp [errW_none, errW_some] <;> rfl) | (simp [*, errW_none, errW_some] <;> rfl), by first | exact Kd.R_nil _ _ _ _ _ | exact Kd.N_nil _ _ _ _ _ | exact Kd.V_nil _ _ _ _ _ | exact Kd.Q_nil _ _ _ _ _ | exact Kd.S_nil _ _ _ _ _, by first | exact Kd.R_nil _ _ _ _ _ | exact Kd.N_nil _ _ _ _ _ | exact Kd.V_nil _ _ _ _ _ | exact Kd.Q_nil _ _ _ _ _ | exact Kd.S_nil _ _ _ _ _, xB HB.out⟩

     rw [if_pos c10] at H
     have c10b0 : decide (x7_2 < (l0.length : Int)) = true := decide_eq_true c10
     clear c10
     by_cases c11 : 0 ≤ x7_2
     rotate_left
     ·rw [if_neg c11] at H
      exact absurd H (by simp)
     rw [if_pos c11] at H
     have c11b0 : decide (0 ≤ x7_2) = true := decide_eq_true c11
     clear c11
     obtain ⟨ji12, hji12⟩ : ∃ j_ : Int, (wrap64 (x7_2 + 1)) = j_ := ⟨_, rfl⟩
     replace H : (if 0 ≤ (ji12) then (if (ji12) < (l0.length : Int) then ((some (([(wrap64 ((rd l0 x7_2) + (rd l0 (ji12)))) / 2] : List Int) : List Int)).bind fun y573 => (if x5_2.length + y573.length < 17592186044416 then ((some (([wrap64 ((rd l0 x7_2) - (rd l0 (ji12)))] : List Int) : List Int)).bind fun y581 => (if x6_2.length + y581.length < 17592186044416 then (impl_TwoBands.l0 k2 l0 (x5_2 ++ y573) (x6_2 ++ y581) (wrap64 (x7_2 + 2))) else (none))) else (none))) else (none)) else (none)) = some (r1, r2, r3) := by first | (rw [hji12] at H; exact H) | (simp only [hji12] at H ⊢; exact H)
     have hji12w : (IntKind.i64.wrap (x7_2 + 1)) = ji12 := (i64_w _).trans hji12
     by_cases c13 : 0 ≤ (ji12)
     rotate_left
     ·rw [if_neg c13] at H
      exact absurd H (by simp)
     rw [if_pos c13] at H
     have c13b0 : decide (0 ≤ (ji12)) = true := decide_eq_true c13
     clear c13
     by_cases c14 : (ji12) < (l0.length : Int)
     rotate_left
     ·rw [if_neg c14] at H
      exact absurd H (by simp)
     rw [if_pos c14] at H
     have c14b0 : decide ((ji12) < (l0.length : Int)) = true := decide_eq_true c14
     clear c14
     obtain ⟨y573, hy573⟩ : ∃ y_ : List Int, y_ = (([(wrap64 ((rd l0 x7_2) + (rd l0 (ji12)))) / 2] : List Int)) := ⟨_, rfl⟩
     replace H : (if x5_2.length + y573.length < 17592186044416 then ((some (([wrap64 ((rd l0 x7_2) - (rd l0 (ji12)))] : List Int) : List Int)).bind fun y581 => (if x6_2.length + y581.length < 17592186044416 then (impl_TwoBands.l0 k2 l0 (x5_2 ++ y573) (x6_2 ++ y581) (wrap64 (x7_2 + 2))) else (none))) else (none)) = some (r1, r2, r3) := by first | (rw [hy573]; with_reducible exact H) | (have H2_ := (Option.bind_some _ _).symm.trans H; rw [hy573]; with_reducible exact H2_) | (have H2_ := (Option.bind_some _ _).symm.trans H; with_reducible exact H2_) | with_reducible exact H | (rw [hy573]; exact H) | exact H
     have Ny573 := Aside0.mk hy573
     clear hy573
     by_cases c15 : x5_2.length + y573.length < 17592186044416
     rotate_left
     ·rw [if_neg c15] at H
      exact absurd H (by simp)
     rw [if_pos c15] at H
     have LMc15 := Aside0.mk c15
     clear c15
     obtain ⟨y576, hy576⟩ : ∃ y_ : List Int, y_ = (x5_2 ++ y573) := ⟨_, rfl⟩
     replace H : ((some (([wrap64 ((rd l0 x7_2) - (rd l0 (ji12)))] : List Int) : List Int)).bind fun y581 => (if x6_2.length + y581.length < 17592186044416 then (impl_TwoBands.l0 k2 l0 y576 (x6_2 ++ y581) (wrap64 (x7_2 + 2))) else (none))) = some (r1, r2, r3) := by first | (rw [hy576]; with_reducible exact H) | (have H2_ := (Option.bind_some _ _).symm.trans H; rw [hy576]; with_reducible exact H2_) | (have H2_ := (Option.bind_some _ _).symm.trans H; with_reducible exact H2_) | with_reducible exact H | (rw [hy576]; exact H) | exact H
     have Ny576 := Aside0.mk hy576
     clear hy576
     obtain ⟨y581, hy581⟩ : ∃ y_ : List Int, y_ = (([wrap64 ((rd l0 x7_2) - (rd l0 (ji12)))] : List Int)) := ⟨_, rfl⟩
     replace H : (if x6_2.length + y581.length < 17592186044416 then (impl_TwoBands.l0 k2 l0 y576 (x6_2 ++ y581) (wrap64 (x7_2 + 2))) else (none)) = some (r1, r2, r3) := by first | (rw [hy581]; with_reducible exact H) | (have H2_ := (Option.bind_some _ _).symm.trans H; rw [hy581]; with_reducible exact H2_) | (have H2_ := (Option.bind_some _ _).symm.trans H; with_reducible exact H2_) | with_reducible exact H | (rw [hy581]; exact H) | exact H
     have Ny581 := Aside0.mk hy581
     clear hy581
     by_cases c16 : x6_2.length + y581.length < 17592186044416
     rotate_left
     ·rw [if_neg c16] at H
      exact absurd H (by simp)
     rw [if_pos c16] at H
     have LMc16 := Aside0.mk c16
     clear c16
     obtain ⟨y584, hy584⟩ : ∃ y_ : List Int, y_ = (x6_2 ++ y581) := ⟨_, rfl⟩
     replace H : (impl_TwoBands.l0 k2 l0 y576 y584 (wrap64 (x7_2 + 2))) = some (r1, r2, r3) := by first | (rw [hy584]; with_reducible exact H) | (have H2_ := (Option.bind_some _ _).symm.trans H; rw [hy584]; with_reducible exact H2_) | (have H2_ := (Option.bind_some _ _).symm.trans H; with_reducible exact H2_) | with_reducible exact H | (rw [hy584]; exact H) | exact H
     have Ny584 := Aside0.mk hy584
     clear hy584
     have H' := Aside0.mk H
     clear H
     obtain ⟨Ao17, co17, eo17⟩ := Kd.R_slice HO_5.out
     subst eo17
     obtain ⟨Ao18, co18, eo18⟩ := Kd.R_slice HO_6.out
     subst eo18
     try go_wp2
     have n0_ := Aside0.mk (Kd.R_drew HO_5.out)
     have n1_ := Aside0.mk (Kd.R_drew HO_6.out)
     have n2_ := Aside0.mk (below_drew1 HB.out)
     clear HO_5
     clear HO_6
     clear HB
     have HO_5 := n0_
     have HO_6 := n1_
     have HB := n2_
     clear n0_ n1_ n2_
     have p571 : 0 ≤ (x7_2 : Int) := of_decide_eq_true (by first | (with_reducible assumption) | assumption)
     have q571 : x7_2 < (l0.length : Int) := of_decide_eq_true (by first | (with_reducible assumption) | assumption)
     obtain ⟨ad571, e571, hx571_0⟩ := Kd.at_int HR0.out x7_2 p571 q571
     have hw571_0 := hx571_0
     cases e571
     replace hx571_0 := (HB.out.cell (World.block_lt_of_cell? w _ hx571_0)).trans hx571_0
     replace p571 := eq_true p571
     replace q571 := eq_true q571
     have p572 : 0 ≤ ((ji12) : Int) := of_decide_eq_true (by first | (with_reducible assumption) | assumption | (rw [← hji12]; first | (with_reducible assumption) | assumption))
     have q572 : (ji12) < (l0.length : Int) := of_decide_eq_true (by first | (with_reducible assumption) | assumption | (rw [← hji12]; first | (with_reducible assumption) | assumption))
     obtain ⟨ad572, e572, hx572_0⟩ := Kd.at_int HR0.out (ji12) p572 q572
     have hw572_0 := hx572_0
     obtain rfl : ad571 = ad572 := (by injection e572)
     replace hx572_0 := (HB.out.cell (World.block_lt_of_cell? w _ hx572_0)).trans hx572_0
     replace p572 := eq_true p572
     replace q572 := eq_true q572
     have p579 : 0 ≤ (x7_2 : Int) := of_decide_eq_true (by first | (with_reducible assumption) | assumption)
     have q579 : x7_2 < (l0.length : Int) := of_decide_eq_true (by first | (with_reducible assumption) | assumption)
     obtain ⟨ad579, e579, hx579_0⟩ := Kd.at_int HR0.out x7_2 p579 q579
     have hw579_0 := hx579_0
     obtain rfl : ad571 = ad579 := (by injection e579)
     replace hx579_0 := (HB.out.cell (World.block_lt_of_cell? w _ hx579_0)).trans hx579_0
     replace p579 := eq_true p579
     replace q579 := eq_true q579
     have p580 : 0 ≤ ((ji12) : Int) := of_decide_eq_true (by first | (with_reducible assumption) | assumption | (rw [← hji12]; first | (with_reducible assumption) | assumption))
     have q580 : (ji12) < (l0.length : Int) := of_decide_eq_true (by first | (with_reducible assumption) | assumption | (rw [← hji12]; first | (with_reducible assumption) | assumption))
     obtain ⟨ad580, e580, hx580_0⟩ := Kd.at_int HR0.out (ji12) p580 q580
     have hw580_0 := hx580_0
     obtain rfl : ad571 = ad580 := (by injection e580)
     replace hx580_0 := (HB.out.cell (World.block_lt_of_cell? w _ hx580_0)).trans hx580_0
     replace p580 := eq_true p580
     replace q580 := eq_true q580
     refine start_ (n := 29) (S := fun w' => w'.cell? (ad571.add (x7_2).toNat) = some (.int .i64 (rd l0 x7_2)) ∧ w'.cell? (ad571.add ((ji12)).toNat) = some (.int .i64 (rd l0 (ji12))) ∧ w'.cell? (ad571.add (x7_2).toNat) = some (.int .i64 (rd l0 x7_2)) ∧ w'.cell? (ad571.add ((ji12)).toNat) = some (.int .i64 (rd l0 (ji12)))) (ds := []) x12a0 (by kernel_rfl) rfl rfl ⟨((HB.out.cell (World.block_lt_of_cell? w _ hw571_0)).trans hw571_0), ((HB.out.cell (World.block_lt_of_cell? w _ hw572_0)).trans hw572_0), ((HB.out.cell (World.block_lt_of_cell? w _ hw579_0)).trans hw579_0), ((HB.out.cell (World.block_lt_of_cell? w _ hw580_0)).trans hw580_0)⟩ (fun hHeld => ?_); refine with_tabW impl_TwoBands.tab7 impl_TwoBands.bits7 (fun HT_ HW_ => ?_)
     generalize wr.drew = w19 at HO_5 HO_6 HB hx571_0 hx572_0 hx579_0 hx580_0 hHeld ⊢
     refine pure_ (i := 0) (N := some 25) (v := ?_) (a' := ?_) x12a1 rfl rfl (any_of HT_.out (by kernel_rfl)) (fun _ _ _ h => h) (Or.inl ⟨by rfl, ?_⟩) ?_ ?_; rotate_left; (intro w'; go_simp; with_reducible rfl); rotate_left; exact xE
     refine pure_ (i := 1) (N := some 26) (v := ?_) (a' := ?_) x12a2 rfl rfl (any_of HT_.out (by kernel_rfl)) (fun _ _ _ h => h) (Or.inl ⟨by rfl, ?_⟩) ?_ ?_; rotate_left; (intro w'; go_simp; with_reducible rfl); rotate_left; exact xE
     refine pure_ (i := 2) (N := some 27) (v := ?_) (a' := ?_) x12a3 rfl rfl (any_of HT_.out (by kernel_rfl)) (fun _ _ _ h => h) (Or.inl ⟨by rfl, ?_⟩) ?_ ?_; rotate_left; (intro w'; go_simp; with_reducible rfl); rotate_left; exact xE
     refine pure_ (i := 3) (N := some 28) (v := ?_) (a' := ?_) x12a4 rfl rfl (any_of HT_.out (by kernel_rfl)) (fun _ _ _ h => h) (Or.inl ⟨by rfl, ?_⟩) ?_ ?_; rotate_left; (intro w'; go_simp; with_reducible rfl); rotate_left; exact xE
     refine pure_ (i := 5) (N := some 30) (v := ?_) (a' := ?_) x12a5 rfl rfl (any_of HT_.out (by kernel_rfl)) (fun _ _ _ h => h) (Or.inl ⟨by rfl, ?_⟩) ?_ ?_; rotate_left; (intro w'; go_simp; with_reducible rfl); rotate_left; exact xE
     refine pure_ (i := 6) (N := some 31) (v := ?_) (a' := ?_) x12a6 rfl rfl (any_of HT_.out (by kernel_rfl)) (fun _ _ _ h => h) (Or.inl ⟨by rfl, ?_⟩) ?_ ?_; rotate_left; (intro w'; go_simp; with_reducible rfl); rotate_left; exact xE
     refine pure_ (i := 7) (N := some 32) (v := ?_) (a' := ?_) x12a7 rfl rfl (any_of HT_.out (by kernel_rfl)) (fun _ _ _ h => h) (Or.inl ⟨by rfl, ?_⟩) ?_ ?_; rotate_left; (intro w'; go_simp; with_reducible rfl); rotate_left; exact xE
     refine pure_ (i := 8) (N := some 33) (v := ?_) (a' := ?_) x12a8 rfl rfl (any_of HT_.out (by kernel_rfl)) (fun _ _ _ h => h) (Or.inl ⟨by rfl, ?_⟩) ?_ ?_; rotate_left; (intro w'; go_simp; with_reducible rfl); rotate_left; exact xE
     refine pure_ (i := 14) (N := some 39) (v := ?_) (a' := ?_) x12a9 rfl rfl (any_of HT_.out (by kernel_rfl)) (fun _ _ _ h => h) (Or.inl ⟨by rfl, ?_⟩) ?_ ?_; rotate_left; (intro w'; go_simp; with_reducible rfl); rotate_left; exact xE
     refine pure_ (i := 15) (N := some 40) (v := ?_) (a' := ?_) x12a10 rfl rfl (any_of HT_.out (by kernel_rfl)) (fun _ _ _ h => h) (Or.inl ⟨by rfl, ?_⟩) ?_ ?_; rotate_left; (intro w'; go_simp; with_reducible rfl); rotate_left; exact xE
     refine pure_ (i := 16) (N := some 41) (v := ?_) (a' := ?_) x12a11 rfl rfl (any_of HT_.out (by kernel_rfl)) (fun _ _ _ h => h) (Or.inl ⟨by rfl, ?_⟩) ?_ ?_; rotate_left; (intro w'; go_simp; with_reducible rfl); rotate_left; exact xE
     refine pure_ (i := 17) (N := some 42) (v := ?_) (a' := ?_) x12a12 rfl rfl (any_of HT_.out (by kernel_rfl)) (fun _ _ _ h => h) (Or.inl ⟨by rfl, ?_⟩) ?_ ?_; rotate_left; (intro w'; go_simp; with_reducible rfl); rotate_left; exact xE
     refine pure_ (i := 19) (N := some 44) (v := ?_) (a' := ?_) x12a13 rfl rfl (any_of HT_.out (by kernel_rfl)) (fun _ _ _ h => h) (Or.inl ⟨by rfl, ?_⟩) ?_ ?_; rotate_left; (intro w'; go_simp; with_reducible rfl); rotate_left; exact xE
     refine pure_ (i := 20) (N := some 45) (v := ?_) (a' := ?_) x12a14 rfl rfl (any_of HT_.out (by kernel_rfl)) (fun _ _ _ h => h) (Or.inl ⟨by rfl, ?_⟩) ?_ ?_; rotate_left; (intro w'; go_simp; with_reducible rfl); rotate_left; exact xE
     refine pure_ (i := 21) (N := some 46) (v := ?_) (a' := ?_) x12a15 rfl rfl (any_of HT_.out (by kernel_rfl)) (fun _ _ _ h => h) (Or.inl ⟨by rfl, ?_⟩) ?_ ?_; rotate_left; (intro w'; go_simp; with_reducible rfl); rotate_left; exact xE
     refine pure_ (i := 22) (N := some 47) (v := ?_) (a' := ?_) x12a16 rfl rfl (any_of HT_.out (by kernel_rfl)) (fun _ _ _ h => h) (Or.inl ⟨by rfl, ?_⟩) ?_ ?_; rotate_left; (intro w'; go_simp; with_reducible rfl); rotate_left; exact xE
     refine take_ (i := 4) (N := some 29) (v := ?_) (a' := ?_) x12a17 rfl rfl (take_ofW HT_.out HW_.out (by kernel_rfl)) (fun _ _ _ h => h) (Or.inl ⟨by rfl, ?_⟩) hHeld ?_ ?_
     rotate_left
     ·rintro w' ⟨s0, s1, s2, s3⟩
      go_simp
      with_reducible rfl
     rotate_left
     ·exact xE
     refine take_ (i := 9) (N := some 34) (v := ?_) (a' := ?_) x12a18 rfl rfl (take_ofW HT_.out HW_.out (by kernel_rfl)) (fun _ _ _ h => h) (Or.inl ⟨by rfl, ?_⟩) hHeld ?_ ?_
     rotate_left
     ·rintro w' ⟨s0, s1, s2, s3⟩
      go_simp
      with_reducible rfl
     rotate_left
     ·exact xE
     refine pure_ (i := 10) (N := some 35) (v := ?_) (a' := ?_) x12a19 rfl rfl (any_of HT_.out (by kernel_rfl)) (fun _ _ _ h => h) (Or.inl ⟨by rfl, ?_⟩) ?_ ?_; rotate_left; (intro w'; go_simp; with_reducible rfl); rotate_left; exact xE
     refine pure_ (i := 11) (N := some 36) (v := ?_) (a' := ?_) x12a20 rfl rfl (any_of HT_.out (by kernel_rfl)) (fun _ _ _ h => h) (Or.inl ⟨by rfl, ?_⟩) ?_ ?_; rotate_left; (intro w'; go_simp; with_reducible rfl); rotate_left; exact xE
     refine take_ (i := 18) (N := some 43) (v := ?_) (a' := ?_) x12a21 rfl rfl (take_ofW HT_.out HW_.out (by kernel_rfl)) (fun _ _ _ h => h) (Or.inl ⟨by rfl, ?_⟩) hHeld ?_ ?_
     rotate_left
     ·rintro w' ⟨s0, s1, s2, s3⟩
      go_simp
      with_reducible rfl
     rotate_left
     ·exact xE
     refine take_ (i := 23) (N := some 48) (v := ?_) (a' := ?_) x12a22 rfl rfl (take_ofW HT_.out HW_.out (by kernel_rfl)) (fun _ _ _ h => h) (Or.inl ⟨by rfl, ?_⟩) hHeld ?_ ?_
     rotate_left
     ·rintro w' ⟨s0, s1, s2, s3⟩
      go_simp
      with_reducible rfl
     rotate_left
     ·exact xE
     refine pure_ (i := 24) (N := some 49) (v := ?_) (a' := ?_) x12a23 rfl rfl (any_of HT_.out (by kernel_rfl)) (fun _ _ _ h => h) (Or.inl ⟨by rfl, ?_⟩) ?_ ?_; rotate_left; (intro w'; go_simp; with_reducible rfl); rotate_left; exact xE
     refine join_ (σ := Value × Value × Value) 3 x12a24 (fun s_ => [(37, s_.1), (38, s_.2.1), (50, s_.2.2)]) (fun s_ w' => (w'.cell? (ad571.add (x7_2).toNat) = some (.int .i64 (rd l0 x7_2)) ∧ w'.cell? (ad571.add ((ji12)).toNat) = some (.int .i64 (rd l0 (ji12))) ∧ w'.cell? (ad571.add (x7_2).toNat) = some (.int .i64 (rd l0 x7_2)) ∧ w'.cell? (ad571.add ((ji12)).toNat) = some (.int .i64 (rd l0 (ji12)))) ∧ (Kd.R (Kd.int .i64) 3 w' w.heap.size (fun k_ => some k_ ≠ (s_.2.1 : Value).ownBlock ∧ some k_ ≠ (s_.2.2 : Value).ownBlock ∧ some k_ ≠ (.slice Ao18 x6_2.length co18 : Value).ownBlock) s_.1 y573) ∧ (Kd.R (Kd.int .i64) 3 w' w.heap.size (fun k_ => some k_ ≠ (s_.1 : Value).ownBlock ∧ some k_ ≠ (s_.2.2 : Value).ownBlock ∧ some k_ ≠ (.slice Ao18 x6_2.length co18 : Value).ownBlock) s_.2.1 y576) ∧ (Kd.R (Kd.int .i64) 3 w' w.heap.size (fun k_ => some k_ ≠ (s_.1 : Value).ownBlock ∧ some k_ ≠ (s_.2.1 : Value).ownBlock ∧ some k_ ≠ (.slice Ao18 x6_2.length co18 : Value).ownBlock) s_.2.2 y581) ∧ (Kd.R (Kd.int .i64) 3 w' w.heap.size (fun k_ => some k_ ≠ (s_.1 : Value).ownBlock ∧ some k_ ≠ (s_.2.1 : Value).ownBlock ∧ some k_ ≠ (s_.2.2 : Value).ownBlock) (.slice Ao18 x6_2.length co18) x6_2) ∧ (Below w.heap.size w w')) ?_ ?_
     rotate_left
     ·intro hCont
      refine two_ (i := 12) (j := 25) (Ni := some 37) (Nj := some 50) x12a25 x12a26 rfl rfl rfl rfl (two_of HT_.out (by kernel_rfl)) (by decide) (by decide) (fun K hK => ?_) (fun K hK => ?_)
      ·skip
       refine Kd.R_lit_step (Kd.int .i64) _ 3 ?hg (N := 37) ?hd (xs := ([(wrap64 ((rd l0 x7_2) + (rd l0 (ji12)))) / 2] : List Int)) (inner := [.int .i64 ((wrap64 ((rd l0 x7_2) + (rd l0 (ji12)))) / 2)]) (ok := fun _ => True) (okp := fun _ => True) ?hr ?hp (fun _ hk => hk) trivial (Below.refl _ _) (Nat.le_refl _) (by simp) ?_; (case hd => rfl); (case hg => rfl); (case hr => first | (go_simp; done) | (go_simp; rfl)); (case hp => exact (Reps.one (show Kd.M (Kd.int .i64) _ _ _ ((wrap64 ((rd l0 x7_2) + (rd l0 (ji12)))) / 2) [.int .i64 ((wrap64 ((rd l0 x7_2) + (rd l0 (ji12)))) / 2)] from rfl) (Reps.none _ _)))
       intro v574 w20 ho21 hb hg_ hnew_
       clear hg_ hnew_
       (first | rw [← Ny573.out] at ho21 | (simp only [Int.reduceToNat] at ho21; rw [← Ny573.out] at ho21))
       have n0_ := Aside0.mk (Kd.R_elder' (xR HO_5.out) (Kd.R_base ho21) hb)
       have n1_ := Aside0.mk (Kd.R_elder' (xR HO_6.out) (Kd.R_base ho21) hb)
       have n2_ := Aside0.mk (Kd.R_lower (Kd.R_new' (Kd.R_new' ho21 (Kd.R_lt (xR HO_5.out))) (Kd.R_lt (xR HO_6.out))) (below_size (xB HB.out)))
       have n3_ := Aside0.mk (below_step (xB HB.out) hb)
       clear HO_5
       clear HO_6
       clear HB
       have HO_5 := n0_
       have HO_6 := n1_
       have HO575 := n2_
       have HB := n3_
       clear n0_ n1_ n2_ n3_
       clear hb ho21
       obtain ⟨Ao23, co23, eo23⟩ := Kd.R_slice HO575.out
       (first | subst eo23 | (injection eo23 with f1_ f2_ f3_; have f4_ := f1_.symm; have f5_ := f3_.symm; clear f1_ f2_ f3_; subst f4_; subst f5_))
       refine hK.out _ _ ⟨((HB.out.cell (World.block_lt_of_cell? w _ hw571_0)).trans hw571_0), ((HB.out.cell (World.block_lt_of_cell? w _ hw572_0)).trans hw572_0), ((HB.out.cell (World.block_lt_of_cell? w _ hw579_0)).trans hw579_0), ((HB.out.cell (World.block_lt_of_cell? w _ hw580_0)).trans hw580_0)⟩ (fun hHeld => ?_)
       clear hK K
       refine norm_ (a' := ?_) ?_ ?_
       rotate_left
       ·show Act.put _ (some 37) _ = _
        simp only [Act.put, List.setIfInBounds_toArray, List.set_cons_zero, List.set_cons_succ, i64_w, i32_w]
        rfl
       refine two_ (i := 13) (j := 25) (Ni := some 38) (Nj := some 50) x12a27 x12a28 rfl rfl rfl rfl (two_of HT_.out (by kernel_rfl)) (by decide) (by decide) (fun K hK => ?_) (fun K hK => ?_)
       ·skip
        refine Kd.R_append_rows_step (Kd.int .i64) (w0 := w) w.heap.size (by rfl) (.tmp 25) (.tmp 37) 24 3 (.int .i64 0) 8 rfl Try.underlying24 info3 rfl (by decide) (by omega) (.slice Ao17 x5_2.length co17) x5_2 y573 _ _ _ (fun k_ => some k_ ≠ (.slice Ao18 x6_2.length co18 : Value).ownBlock ∧ some k_ ≠ (.slice Ao23 y573.length co23 : Value).ownBlock) (fun _ => False) rfl rfl ?aO ?aR (fun _ _ h => h) (fun _ h => h.elim) ?aF ?aB ?aS ?aL ?_
        (case aR => exact xC ((Kd.R_reads' HO575.out).2.2))
        (case aB => exact (xB HB.out))
        (case aF => exact (fun k_ hk => ⟨Kd.fresh' (Kd.R_lt (xR HO_6.out)) k_ hk, Kd.fresh' (Kd.R_lt (xR HO575.out)) k_ hk⟩))
        (case aO => exact (xR HO_5.out))
        (case aS => exact (below_size (xB HB.out)))
        (case aL => have := LMc15.out; omega)
        intro v577 w22 ho hb hg hat
        rw [← Ny576.out] at ho
        have n0_ := Aside0.mk (Kd.R_after (ok := (fun k_ => some k_ ≠ (.slice Ao23 y573.length co23 : Value).ownBlock)) (by (with_reducible repeat (first | apply Kd.R_alloc | apply Kd.R_drewN | apply Kd.R_drew)); exact Kd.R_mono HO_6.out (fun _ hk => ⟨hk.2, hk.1⟩)) hg hat)
        have n1_ := Aside0.mk (Kd.R_after (ok := (fun k_ => some k_ ≠ (.slice Ao18 x6_2.length co18 : Value).ownBlock)) (by (with_reducible repeat (first | apply Kd.R_alloc | apply Kd.R_drewN | apply Kd.R_drew)); exact Kd.R_mono HO575.out (fun _ hk => ⟨hk.2, hk.1.2⟩)) hg hat)
        have n2_ := Aside0.mk (hb)
        have n3_ := Aside0.mk (ho)
        clear HO_6
        clear HO575
        clear HB
        clear HO_5
        have HO_6 := n0_
        have HO575 := n1_
        have HB := n2_
        have HO578 := n3_
        clear n0_ n1_ n2_ n3_
        clear ho hb hg hat
        refine hK.out _ _ ⟨((HB.out.cell (World.block_lt_of_cell? w _ hw571_0)).trans hw571_0), ((HB.out.cell (World.block_lt_of_cell? w _ hw572_0)).trans hw572_0), ((HB.out.cell (World.block_lt_of_cell? w _ hw579_0)).trans hw579_0), ((HB.out.cell (World.block_lt_of_cell? w _ hw580_0)).trans hw580_0)⟩ (fun hHeld => ?_)
        clear hK K
        refine norm_ (a' := ?_) ?_ ?_
        rotate_left
        ·show Act.put _ (some 38) _ = _
         simp only [Act.put, List.setIfInBounds_toArray, List.set_cons_zero, List.set_cons_succ, i64_w, i32_w]
         rfl
        refine one_ (i := 25) (N := some 50) x12a24 rfl rfl (one_of HT_.out (by kernel_rfl)) (by decide) (fun K hK => ?_)
        refine Kd.R_lit_step (Kd.int .i64) _ 3 ?hg (N := 50) ?hd (xs := ([wrap64 ((rd l0 x7_2) - (rd l0 (ji12)))] : List Int)) (inner := [.int .i64 (wrap64 ((rd l0 x7_2) - (rd l0 (ji12))))]) (ok := fun _ => True) (okp := fun _ => True) ?hr ?hp (fun _ hk => hk) trivial (Below.refl _ _) (Nat.le_refl _) (by simp) ?_; (case hd => rfl); (case hg => rfl); (case hr => first | (go_simp; done) | (go_simp; rfl)); (case hp => exact (Reps.one (show Kd.M (Kd.int .i64) _ _ _ (wrap64 ((rd l0 x7_2) - (rd l0 (ji12)))) [.int .i64 (wrap64 ((rd l0 x7_2) - (rd l0 (ji12))))] from rfl) (Reps.none _ _)))
        intro v582 w24 ho25 hb hg_ hnew_
        clear hg_ hnew_
        (first | rw [← Ny581.out] at ho25 | (simp only [Int.reduceToNat] at ho25; rw [← Ny581.out] at ho25))
        have n0_ := Aside0.mk (Kd.R_elder' (xR HO_6.out) (Kd.R_base ho25) hb)
        have n1_ := Aside0.mk (Kd.R_elder' (xR HO575.out) (Kd.R_base ho25) hb)
        have n2_ := Aside0.mk (Kd.R_elder' (xR HO578.out) (Kd.R_base ho25) hb)
        have n3_ := Aside0.mk (Kd.R_lower (Kd.R_new' (Kd.R_new' (Kd.R_new' ho25 (Kd.R_lt (xR HO_6.out))) (Kd.R_lt (xR HO575.out))) (Kd.R_lt (xR HO578.out))) (below_size (xB HB.out)))
        have n4_ := Aside0.mk (below_step (xB HB.out) hb)
        clear HO_6
        clear HO575
        clear HO578
        clear HB
        have HO_6 := n0_
        have HO575 := n1_
        have HO578 := n2_
        have HO583 := n3_
        have HB := n4_
        clear n0_ n1_ n2_ n3_ n4_
        clear hb ho25
        refine hK.out _ _ ⟨((HB.out.cell (World.block_lt_of_cell? w _ hw571_0)).trans hw571_0), ((HB.out.cell (World.block_lt_of_cell? w _ hw572_0)).trans hw572_0), ((HB.out.cell (World.block_lt_of_cell? w _ hw579_0)).trans hw579_0), ((HB.out.cell (World.block_lt_of_cell? w _ hw580_0)).trans hw580_0)⟩ (fun hHeld => ?_)
        clear hK K
        refine norm_ (a' := ?_) ?_ ?_
        rotate_left
        ·show Act.put _ (some 50) _ = _
         simp only [Act.put, List.setIfInBounds_toArray, List.set_cons_zero, List.set_cons_succ, i64_w, i32_w]
         rfl
        exact norm_ (by simp only [putAll, Act.put, List.setIfInBounds_toArray, List.set_cons_zero, List.set_cons_succ]) (hCont (.slice Ao23 y573.length co23, v577, v582) _ ⟨hHeld, (by (with_reducible repeat (first | apply Kd.R_alloc | apply Kd.R_drewN | apply Kd.R_drew)); exact Kd.R_mono HO575.out (fun _ hk => ⟨hk.1.2, ⟨hk.2, hk.1.1⟩⟩)), (by (with_reducible repeat (first | apply Kd.R_alloc | apply Kd.R_drewN | apply Kd.R_drew)); exact Kd.R_mono HO578.out (fun _ hk => ⟨hk.1.2, ⟨hk.2, hk.1.1⟩⟩)), (by (with_reducible repeat (first | apply Kd.R_alloc | apply Kd.R_drewN | apply Kd.R_drew)); exact Kd.R_mono HO583.out (fun _ hk => ⟨hk.1.2, ⟨hk.2, hk.1.1.2⟩⟩)), (by (with_reducible repeat (first | apply Kd.R_alloc | apply Kd.R_drewN | apply Kd.R_drew)); exact Kd.R_mono HO_6.out (fun _ hk => ⟨hk.1.1, ⟨hk.1.2, hk.2⟩⟩)), (xB HB.out)⟩)
       ·skip
        refine Kd.R_lit_step (Kd.int .i64) _ 3 ?hg (N := 50) ?hd (xs := ([wrap64 ((rd l0 x7_2) - (rd l0 (ji12)))] : List Int)) (inner := [.int .i64 (wrap64 ((rd l0 x7_2) - (rd l0 (ji12))))]) (ok := fun _ => True) (okp := fun _ => True) ?hr ?hp (fun _ hk => hk) trivial (Below.refl _ _) (Nat.le_refl _) (by simp) ?_; (case hd => rfl); (case hg => rfl); (case hr => first | (go_simp; done) | (go_simp; rfl)); (case hp => exact (Reps.one (show Kd.M (Kd.int .i64) _ _ _ (wrap64 ((rd l0 x7_2) - (rd l0 (ji12)))) [.int .i64 (wrap64 ((rd l0 x7_2) - (rd l0 (ji12))))] from rfl) (Reps.none _ _)))
        intro v582 w22 ho23 hb hg_ hnew_
        clear hg_ hnew_
        (first | rw [← Ny581.out] at ho23 | (simp only [Int.reduceToNat] at ho23; rw [← Ny581.out] at ho23))
        have n0_ := Aside0.mk (Kd.R_elder' (xR HO_5.out) (Kd.R_base ho23) hb)
        have n1_ := Aside0.mk (Kd.R_elder' (xR HO_6.out) (Kd.R_base ho23) hb)
        have n2_ := Aside0.mk (Kd.R_elder' (xR HO575.out) (Kd.R_base ho23) hb)
        have n3_ := Aside0.mk (Kd.R_lower (Kd.R_new' (Kd.R_new' (Kd.R_new' ho23 (Kd.R_lt (xR HO_5.out))) (Kd.R_lt (xR HO_6.out))) (Kd.R_lt (xR HO575.out))) (below_size (xB HB.out)))
        have n4_ := Aside0.mk (below_step (xB HB.out) hb)
        clear HO_5
        clear HO_6
        clear HO575
        clear HB
        have HO_5 := n0_
        have HO_6 := n1_
        have HO575 := n2_
        have HO583 := n3_
        have HB := n4_
        clear n0_ n1_ n2_ n3_ n4_
        clear hb ho23
        obtain ⟨Ao25, co25, eo25⟩ := Kd.R_slice HO575.out
        (first | subst eo25 | (injection eo25 with f1_ f2_ f3_; have f4_ := f1_.symm; have f5_ := f3_.symm; clear f1_ f2_ f3_; subst f4_; subst f5_))
        refine hK.out _ _ ⟨((HB.out.cell (World.block_lt_of_cell? w _ hw571_0)).trans hw571_0), ((HB.out.cell (World.block_lt_of_cell? w _ hw572_0)).trans hw572_0), ((HB.out.cell (World.block_lt_of_cell? w _ hw579_0)).trans hw579_0), ((HB.out.cell (World.block_lt_of_cell? w _ hw580_0)).trans hw580_0)⟩ (fun hHeld => ?_)
        clear hK K
        refine norm_ (a' := ?_) ?_ ?_
        rotate_left
        ·show Act.put _ (some 50) _ = _
         simp only [Act.put, List.setIfInBounds_toArray, List.set_cons_zero, List.set_cons_succ, i64_w, i32_w]
         rfl
        refine one_ (i := 13) (N := some 38) x12a24 rfl rfl (one_of HT_.out (by kernel_rfl)) (by decide) (fun K hK => ?_)
        refine Kd.R_append_rows_step (Kd.int .i64) (w0 := w) w.heap.size (by rfl) (.tmp 25) (.tmp 37) 24 3 (.int .i64 0) 8 rfl Try.underlying24 info3 rfl (by decide) (by omega) (.slice Ao17 x5_2.length co17) x5_2 y573 _ _ _ (fun k_ => some k_ ≠ (.slice Ao18 x6_2.length co18 : Value).ownBlock ∧ some k_ ≠ (.slice Ao25 y573.length co25 : Value).ownBlock ∧ some k_ ≠ (v582 : Value).ownBlock) (fun _ => False) rfl rfl ?aO ?aR (fun _ _ h => h) (fun _ h => h.elim) ?aF ?aB ?aS ?aL ?_
        (case aR => exact xC ((Kd.R_reads' HO575.out).2.2))
        (case aB => exact (xB HB.out))
        (case aF => exact (fun k_ hk => ⟨Kd.fresh' (Kd.R_lt (xR HO_6.out)) k_ hk, Kd.fresh' (Kd.R_lt (xR HO575.out)) k_ hk, Kd.fresh' (Kd.R_lt (xR HO583.out)) k_ hk⟩))
        (case aO => exact (by (with_reducible repeat (first | apply Kd.R_alloc | apply Kd.R_drewN | apply Kd.R_drew)); exact Kd.R_mono HO_5.out (fun _ hk => ⟨hk.1.1, ⟨hk.1.2, hk.2⟩⟩)))
        (case aS => exact (below_size (xB HB.out)))
        (case aL => have := LMc15.out; omega)
        intro v577 w24 ho hb hg hat
        rw [← Ny576.out] at ho
        have n0_ := Aside0.mk (Kd.R_after (ok := (fun k_ => some k_ ≠ (.slice Ao25 y573.length co25 : Value).ownBlock ∧ some k_ ≠ (v582 : Value).ownBlock)) (by (with_reducible repeat (first | apply Kd.R_alloc | apply Kd.R_drewN | apply Kd.R_drew)); exact Kd.R_mono HO_6.out (fun _ hk => ⟨⟨hk.1.2, hk.2⟩, hk.1.1⟩)) hg hat)
        have n1_ := Aside0.mk (Kd.R_after (ok := (fun k_ => some k_ ≠ (.slice Ao18 x6_2.length co18 : Value).ownBlock ∧ some k_ ≠ (v582 : Value).ownBlock)) (by (with_reducible repeat (first | apply Kd.R_alloc | apply Kd.R_drewN | apply Kd.R_drew)); exact Kd.R_mono HO575.out (fun _ hk => ⟨⟨hk.1.2, hk.2⟩, hk.1.1.2⟩)) hg hat)
        have n2_ := Aside0.mk (Kd.R_after (ok := (fun k_ => some k_ ≠ (.slice Ao18 x6_2.length co18 : Value).ownBlock ∧ some k_ ≠ (.slice Ao25 y573.length co25 : Value).ownBlock)) (by (with_reducible repeat (first | apply Kd.R_alloc | apply Kd.R_drewN | apply Kd.R_drew)); exact Kd.R_mono HO583.out (fun _ hk => ⟨⟨hk.1.2, hk.2⟩, hk.1.1.2⟩)) hg hat)
        have n3_ := Aside0.mk (hb)
        have n4_ := Aside0.mk (ho)
        clear HO_6
        clear HO575
        clear HO583
        clear HB
        clear HO_5
        have HO_6 := n0_
        have HO575 := n1_
        have HO583 := n2_
        have HB := n3_
        have HO578 := n4_
        clear n0_ n1_ n2_ n3_ n4_
        clear ho hb hg hat
        refine hK.out _ _ ⟨((HB.out.cell (World.block_lt_of_cell? w _ hw571_0)).trans hw571_0), ((HB.out.cell (World.block_lt_of_cell? w _ hw572_0)).trans hw572_0), ((HB.out.cell (World.block_lt_of_cell? w _ hw579_0)).trans hw579_0), ((HB.out.cell (World.block_lt_of_cell? w _ hw580_0)).trans hw580_0)⟩ (fun hHeld => ?_)
        clear hK K
        refine norm_ (a' := ?_) ?_ ?_
        rotate_left
        ·show Act.put _ (some 38) _ = _
         simp only [Act.put, List.setIfInBounds_toArray, List.set_cons_zero, List.set_cons_succ, i64_w, i32_w]
         rfl
        exact norm_ (by simp only [putAll, Act.put, List.setIfInBounds_toArray, List.set_cons_zero, List.set_cons_succ]) (hCont (.slice Ao25 y573.length co25, v577, v582) _ ⟨hHeld, (by (with_reducible repeat (first | apply Kd.R_alloc | apply Kd.R_drewN | apply Kd.R_drew)); exact Kd.R_mono HO575.out (fun _ hk => ⟨hk.2, ⟨hk.1.2, hk.1.1⟩⟩)), (by (with_reducible repeat (first | apply Kd.R_alloc | apply Kd.R_drewN | apply Kd.R_drew)); exact Kd.R_mono HO578.out (fun _ hk => ⟨hk.2.1, ⟨hk.2.2, hk.1⟩⟩)), (by (with_reducible repeat (first | apply Kd.R_alloc | apply Kd.R_drewN | apply Kd.R_drew)); exact Kd.R_mono HO583.out (fun _ hk => ⟨hk.1.2, ⟨hk.2, hk.1.1⟩⟩)), (by (with_reducible repeat (first | apply Kd.R_alloc | apply Kd.R_drewN | apply Kd.R_drew)); exact Kd.R_mono HO_6.out (fun _ hk => ⟨hk.1.1, ⟨hk.2, hk.1.2⟩⟩)), (xB HB.out)⟩)
      ·skip
       refine Kd.R_lit_step (Kd.int .i64) _ 3 ?hg (N := 50) ?hd (xs := ([wrap64 ((rd l0 x7_2) - (rd l0 (ji12)))] : List Int)) (inner := [.int .i64 (wrap64 ((rd l0 x7_2) - (rd l0 (ji12))))]) (ok := fun _ => True) (okp := fun _ => True) ?hr ?hp (fun _ hk => hk) trivial (Below.refl _ _) (Nat.le_refl _) (by simp) ?_; (case hd => rfl); (case hg => rfl); (case hr => first | (go_simp; done) | (go_simp; rfl)); (case hp => exact (Reps.one (show Kd.M (Kd.int .i64) _ _ _ (wrap64 ((rd l0 x7_2) - (rd l0 (ji12)))) [.int .i64 (wrap64 ((rd l0 x7_2) - (rd l0 (ji12))))] from rfl) (Reps.none _ _)))
       intro v582 w20 ho21 hb hg_ hnew_
       clear hg_ hnew_
       (first | rw [← Ny581.out] at ho21 | (simp only [Int.reduceToNat] at ho21; rw [← Ny581.out] at ho21))
       have n0_ := Aside0.mk (Kd.R_elder' (xR HO_5.out) (Kd.R_base ho21) hb)
       have n1_ := Aside0.mk (Kd.R_elder' (xR HO_6.out) (Kd.R_base ho21) hb)
       have n2_ := Aside0.mk (Kd.R_lower (Kd.R_new' (Kd.R_new' ho21 (Kd.R_lt (xR HO_5.out))) (Kd.R_lt (xR HO_6.out))) (below_size (xB HB.out)))
       have n3_ := Aside0.mk (below_step (xB HB.out) hb)
       clear HO_5
       clear HO_6
       clear HB
       have HO_5 := n0_
       have HO_6 := n1_
       have HO583 := n2_
       have HB := n3_
       clear n0_ n1_ n2_ n3_
       clear hb ho21
       refine hK.out _ _ ⟨((HB.out.cell (World.block_lt_of_cell? w _ hw571_0)).trans hw571_0), ((HB.out.cell (World.block_lt_of_cell? w _ hw572_0)).trans hw572_0), ((HB.out.cell (World.block_lt_of_cell? w _ hw579_0)).trans hw579_0), ((HB.out.cell (World.block_lt_of_cell? w _ hw580_0)).trans hw580_0)⟩ (fun hHeld => ?_)
       clear hK K
       refine norm_ (a' := ?_) ?_ ?_
       rotate_left
       ·show Act.put _ (some 50) _ = _
        simp only [Act.put, List.setIfInBounds_toArray, List.set_cons_zero, List.set_cons_succ, i64_w, i32_w]
        rfl
       refine one_ (i := 12) (N := some 37) x12a28 rfl rfl (one_of HT_.out (by kernel_rfl)) (by decide) (fun K hK => ?_)
       refine Kd.R_lit_step (Kd.int .i64) _ 3 ?hg (N := 37) ?hd (xs := ([(wrap64 ((rd l0 x7_2) + (rd l0 (ji12)))) / 2] : List Int)) (inner := [.int .i64 ((wrap64 ((rd l0 x7_2) + (rd l0 (ji12)))) / 2)]) (ok := fun _ => True) (okp := fun _ => True) ?hr ?hp (fun _ hk => hk) trivial (Below.refl _ _) (Nat.le_refl _) (by simp) ?_; (case hd => rfl); (case hg => rfl); (case hr => first | (go_simp; done) | (go_simp; rfl)); (case hp => exact (Reps.one (show Kd.M (Kd.int .i64) _ _ _ ((wrap64 ((rd l0 x7_2) + (rd l0 (ji12)))) / 2) [.int .i64 ((wrap64 ((rd l0 x7_2) + (rd l0 (ji12)))) / 2)] from rfl) (Reps.none _ _)))
       intro v574 w22 ho23 hb hg_ hnew_
       clear hg_ hnew_
       (first | rw [← Ny573.out] at ho23 | (simp only [Int.reduceToNat] at ho23; rw [← Ny573.out] at ho23))
       have n0_ := Aside0.mk (Kd.R_elder' (xR HO_5.out) (Kd.R_base ho23) hb)
       have n1_ := Aside0.mk (Kd.R_elder' (xR HO_6.out) (Kd.R_base ho23) hb)
       have n2_ := Aside0.mk (Kd.R_elder' (xR HO583.out) (Kd.R_base ho23) hb)
       have n3_ := Aside0.mk (Kd.R_lower (Kd.R_new' (Kd.R_new' (Kd.R_new' ho23 (Kd.R_lt (xR HO_5.out))) (Kd.R_lt (xR HO_6.out))) (Kd.R_lt (xR HO583.out))) (below_size (xB HB.out)))
       have n4_ := Aside0.mk (below_step (xB HB.out) hb)
       clear HO_5
       clear HO_6
       clear HO583
       clear HB
       have HO_5 := n0_
       have HO_6 := n1_
       have HO583 := n2_
       have HO575 := n3_
       have HB := n4_
       clear n0_ n1_ n2_ n3_ n4_
       clear hb ho23
       obtain ⟨Ao25, co25, eo25⟩ := Kd.R_slice HO575.out
       (first | subst eo25 | (injection eo25 with f1_ f2_ f3_; have f4_ := f1_.symm; have f5_ := f3_.symm; clear f1_ f2_ f3_; subst f4_; subst f5_))
       refine hK.out _ _ ⟨((HB.out.cell (World.block_lt_of_cell? w _ hw571_0)).trans hw571_0), ((HB.out.cell (World.block_lt_of_cell? w _ hw572_0)).trans hw572_0), ((HB.out.cell (World.block_lt_of_cell? w _ hw579_0)).trans hw579_0), ((HB.out.cell (World.block_lt_of_cell? w _ hw580_0)).trans hw580_0)⟩ (fun hHeld => ?_)
       clear hK K
       refine norm_ (a' := ?_) ?_ ?_
       rotate_left
       ·show Act.put _ (some 37) _ = _
        simp only [Act.put, List.setIfInBounds_toArray, List.set_cons_zero, List.set_cons_succ, i64_w, i32_w]
        rfl
       refine one_ (i := 13) (N := some 38) x12a24 rfl rfl (one_of HT_.out (by kernel_rfl)) (by decide) (fun K hK => ?_)
       refine Kd.R_append_rows_step (Kd.int .i64) (w0 := w) w.heap.size (by rfl) (.tmp 25) (.tmp 37) 24 3 (.int .i64 0) 8 rfl Try.underlying24 info3 rfl (by decide) (by omega) (.slice Ao17 x5_2.length co17) x5_2 y573 _ _ _ (fun k_ => some k_ ≠ (.slice Ao18 x6_2.length co18 : Value).ownBlock ∧ some k_ ≠ (v582 : Value).ownBlock ∧ some k_ ≠ (.slice Ao25 y573.length co25 : Value).ownBlock) (fun _ => False) rfl rfl ?aO ?aR (fun _ _ h => h) (fun _ h => h.elim) ?aF ?aB ?aS ?aL ?_
       (case aR => exact xC ((Kd.R_reads' HO575.out).2.2))
       (case aB => exact (xB HB.out))
       (case aF => exact (fun k_ hk => ⟨Kd.fresh' (Kd.R_lt (xR HO_6.out)) k_ hk, Kd.fresh' (Kd.R_lt (xR HO583.out)) k_ hk, Kd.fresh' (Kd.R_lt (xR HO575.out)) k_ hk⟩))
       (case aO => exact (by (with_reducible repeat (first | apply Kd.R_alloc | apply Kd.R_drewN | apply Kd.R_drew)); exact Kd.R_mono HO_5.out (fun _ hk => ⟨hk.1.1, ⟨hk.1.2, hk.2⟩⟩)))
       (case aS => exact (below_size (xB HB.out)))
       (case aL => have := LMc15.out; omega)
       intro v577 w24 ho hb hg hat
       rw [← Ny576.out] at ho
       have n0_ := Aside0.mk (Kd.R_after (ok := (fun k_ => some k_ ≠ (v582 : Value).ownBlock ∧ some k_ ≠ (.slice Ao25 y573.length co25 : Value).ownBlock)) (by (with_reducible repeat (first | apply Kd.R_alloc | apply Kd.R_drewN | apply Kd.R_drew)); exact Kd.R_mono HO_6.out (fun _ hk => ⟨⟨hk.1.2, hk.2⟩, hk.1.1⟩)) hg hat)
       have n1_ := Aside0.mk (Kd.R_after (ok := (fun k_ => some k_ ≠ (.slice Ao18 x6_2.length co18 : Value).ownBlock ∧ some k_ ≠ (.slice Ao25 y573.length co25 : Value).ownBlock)) (by (with_reducible repeat (first | apply Kd.R_alloc | apply Kd.R_drewN | apply Kd.R_drew)); exact Kd.R_mono HO583.out (fun _ hk => ⟨⟨hk.1.2, hk.2⟩, hk.1.1.2⟩)) hg hat)
       have n2_ := Aside0.mk (Kd.R_after (ok := (fun k_ => some k_ ≠ (.slice Ao18 x6_2.length co18 : Value).ownBlock ∧ some k_ ≠ (v582 : Value).ownBlock)) (by (with_reducible repeat (first | apply Kd.R_alloc | apply Kd.R_drewN | apply Kd.R_drew)); exact Kd.R_mono HO575.out (fun _ hk => ⟨⟨hk.1.2, hk.2⟩, hk.1.1.2⟩)) hg hat)
       have n3_ := Aside0.mk (hb)
       have n4_ := Aside0.mk (ho)
       clear HO_6
       clear HO583
       clear HO575
       clear HB
       clear HO_5
       have HO_6 := n0_
       have HO583 := n1_
       have HO575 := n2_
       have HB := n3_
       have HO578 := n4_
       clear n0_ n1_ n2_ n3_ n4_
       clear ho hb hg hat
       refine hK.out _ _ ⟨((HB.out.cell (World.block_lt_of_cell? w _ hw571_0)).trans hw571_0), ((HB.out.cell (World.block_lt_of_cell? w _ hw572_0)).trans hw572_0), ((HB.out.cell (World.block_lt_of_cell? w _ hw579_0)).trans hw579_0), ((HB.out.cell (World.block_lt_of_cell? w _ hw580_0)).trans hw580_0)⟩ (fun hHeld => ?_)
       clear hK K
       refine norm_ (a' := ?_) ?_ ?_
       rotate_left
       ·show Act.put _ (some 38) _ = _
        simp only [Act.put, List.setIfInBounds_toArray, List.set_cons_zero, List.set_cons_succ, i64_w, i32_w]
        rfl
       exact norm_ (by simp only [putAll, Act.put, List.setIfInBounds_toArray, List.set_cons_zero, List.set_cons_succ]) (hCont (.slice Ao25 y573.length co25, v577, v582) _ ⟨hHeld, (by (with_reducible repeat (first | apply Kd.R_alloc | apply Kd.R_drewN | apply Kd.R_drew)); exact Kd.R_mono HO575.out (fun _ hk => ⟨hk.2, ⟨hk.1.2, hk.1.1⟩⟩)), (by (with_reducible repeat (first | apply Kd.R_alloc | apply Kd.R_drewN | apply Kd.R_drew)); exact Kd.R_mono HO578.out (fun _ hk => ⟨hk.2.2, ⟨hk.2.1, hk.1⟩⟩)), (by (with_reducible repeat (first | apply Kd.R_alloc | apply Kd.R_drewN | apply Kd.R_drew)); exact Kd.R_mono HO583.out (fun _ hk => ⟨hk.1.2, ⟨hk.2, hk.1.1⟩⟩)), (by (with_reducible repeat (first | apply Kd.R_alloc | apply Kd.R_drewN | apply Kd.R_drew)); exact Kd.R_mono HO_6.out (fun _ hk => ⟨hk.1.2, ⟨hk.2, hk.1.1⟩⟩)), (xB HB.out)⟩)
     rintro ⟨v574, v577, v582⟩ w26 ⟨hS_, h0_, h1_, h2_, h3_, h4_⟩
     have n0_ : Aside0 (Kd.R (Kd.int .i64) 3 w26 w.heap.size (fun k_ => some k_ ≠ (v577 : Value).ownBlock ∧ some k_ ≠ (v582 : Value).ownBlock ∧ some k_ ≠ (.slice Ao18 x6_2.length co18 : Value).ownBlock) v574 y573) := ⟨h0_⟩
     have n1_ : Aside0 (Kd.R (Kd.int .i64) 3 w26 w.heap.size (fun k_ => some k_ ≠ (v574 : Value).ownBlock ∧ some k_ ≠ (v582 : Value).ownBlock ∧ some k_ ≠ (.slice Ao18 x6_2.length co18 : Value).ownBlock) v577 y576) := ⟨h1_⟩
     have n2_ : Aside0 (Kd.R (Kd.int .i64) 3 w26 w.heap.size (fun k_ => some k_ ≠ (v574 : Value).ownBlock ∧ some k_ ≠ (v577 : Value).ownBlock ∧ some k_ ≠ (.slice Ao18 x6_2.length co18 : Value).ownBlock) v582 y581) := ⟨h2_⟩
     have n3_ : Aside0 (Kd.R (Kd.int .i64) 3 w26 w.heap.size (fun k_ => some k_ ≠ (v574 : Value).ownBlock ∧ some k_ ≠ (v577 : Value).ownBlock ∧ some k_ ≠ (v582 : Value).ownBlock) (.slice Ao18 x6_2.length co18) x6_2) := ⟨h3_⟩
     have n4_ : Aside0 (Below w.heap.size w w26) := ⟨h4_⟩
     clear HO_5
     clear HO_6
     clear HB
     clear h0_ h1_ h2_ h3_ h4_
     have HO575 := n0_
     have HO578 := n1_
     have HO583 := n2_
     have HO_6 := n3_
     have HB := n4_
     clear n0_ n1_ n2_ n3_ n4_
     have hHeld : w26.cell? (ad571.add (x7_2).toNat) = some (.int .i64 (rd l0 x7_2)) ∧ w26.cell? (ad571.add ((ji12)).toNat) = some (.int .i64 (rd l0 (ji12))) ∧ w26.cell? (ad571.add (x7_2).toNat) = some (.int .i64 (rd l0 x7_2)) ∧ w26.cell? (ad571.add ((ji12)).toNat) = some (.int .i64 (rd l0 (ji12))) := hS_
     obtain ⟨Ao28, co28, eo28⟩ := Kd.R_slice HO583.out
     (first | subst eo28 | (injection eo28 with f1_ f2_ f3_; have f4_ := f1_.symm; have f5_ := f3_.symm; clear f1_ f2_ f3_; subst f4_; subst f5_))
     refine norm_ (a' := ?_) ?_ ?_
     rotate_left
     ·simp only [putAll, Act.put, List.setIfInBounds_toArray, List.set_cons_zero, List.set_cons_succ]
      rfl
     refine one_ (i := 26) (N := some 51) x12a29 rfl rfl (one_of HT_.out (by kernel_rfl)) (by decide) (fun K hK => ?_)
     refine Kd.R_append_rows_step (Kd.int .i64) (w0 := w) w.heap.size (by rfl) (.tmp 39) (.tmp 50) 24 3 (.int .i64 0) 8 rfl Try.underlying24 info3 rfl (by decide) (by omega) (.slice Ao18 x6_2.length co18) x6_2 y581 _ _ _ (fun k_ => some k_ ≠ (v574 : Value).ownBlock ∧ some k_ ≠ (v577 : Value).ownBlock ∧ some k_ ≠ (.slice Ao28 y581.length co28 : Value).ownBlock) (fun _ => False) rfl rfl ?aO ?aR (fun _ _ h => h) (fun _ h => h.elim) ?aF ?aB ?aS ?aL ?_
     (case aR => exact xC ((Kd.R_reads' HO583.out).2.2))
     (case aB => exact (xB HB.out))
     (case aF => exact (fun k_ hk => ⟨Kd.fresh' (Kd.R_lt (xR HO575.out)) k_ hk, Kd.fresh' (Kd.R_lt (xR HO578.out)) k_ hk, Kd.fresh' (Kd.R_lt (xR HO583.out)) k_ hk⟩))
     (case aO => exact (xR HO_6.out))
     (case aS => exact (below_size (xB HB.out)))
     (case aL => have := LMc16.out; omega)
     intro v585 w27 ho hb hg hat
     rw [← Ny584.out] at ho
     have n0_ := Aside0.mk (Kd.R_after (ok := (fun k_ => some k_ ≠ (v577 : Value).ownBlock ∧ some k_ ≠ (.slice Ao28 y581.length co28 : Value).ownBlock)) (by (with_reducible repeat (first | apply Kd.R_alloc | apply Kd.R_drewN | apply Kd.R_drew)); exact Kd.R_mono HO575.out (fun _ hk => ⟨⟨hk.1, hk.2.1⟩, hk.2.2⟩)) hg hat)
     have n1_ := Aside0.mk (Kd.R_after (ok := (fun k_ => some k_ ≠ (v574 : Value).ownBlock ∧ some k_ ≠ (.slice Ao28 y581.length co28 : Value).ownBlock)) (by (with_reducible repeat (first | apply Kd.R_alloc | apply Kd.R_drewN | apply Kd.R_drew)); exact Kd.R_mono HO578.out (fun _ hk => ⟨⟨hk.1, hk.2.1⟩, hk.2.2⟩)) hg hat)
     have n2_ := Aside0.mk (Kd.R_after (ok := (fun k_ => some k_ ≠ (v574 : Value).ownBlock ∧ some k_ ≠ (v577 : Value).ownBlock)) (by (with_reducible repeat (first | apply Kd.R_alloc | apply Kd.R_drewN | apply Kd.R_drew)); exact Kd.R_mono HO583.out (fun _ hk => ⟨⟨hk.1, hk.2.1⟩, hk.2.2⟩)) hg hat)
     have n3_ := Aside0.mk (hb)
     have n4_ := Aside0.mk (ho)
     clear HO575
     clear HO578
     clear HO583
     clear HB
     clear HO_6
     have HO575 := n0_
     have HO578 := n1_
     have HO583 := n2_
     have HB := n3_
     have HO586 := n4_
     clear n0_ n1_ n2_ n3_ n4_
     clear ho hb hg hat
     refine hK.out _ _ ⟨((HB.out.cell (World.block_lt_of_cell? w _ hw571_0)).trans hw571_0), ((HB.out.cell (World.block_lt_of_cell? w _ hw572_0)).trans hw572_0), ((HB.out.cell (World.block_lt_of_cell? w _ hw579_0)).trans hw579_0), ((HB.out.cell (World.block_lt_of_cell? w _ hw580_0)).trans hw580_0)⟩ (fun hHeld => ?_)
     clear hK K
     refine norm_ (a' := ?_) ?_ ?_
     rotate_left
     ·show Act.put _ (some 51) _ = _
      simp only [Act.put, List.setIfInBounds_toArray, List.set_cons_zero, List.set_cons_succ, i64_w, i32_w]
      rfl
     refine pure_ (i := 27) (N := some 5) (v := ?_) (a' := ?_) x12a30 rfl rfl (any_of HT_.out (by kernel_rfl)) (fun _ _ _ h => h) (Or.inl ⟨by rfl, ?_⟩) ?_ ?_; rotate_left; (intro w'; go_simp; with_reducible rfl); rotate_left; exact xE
     refine pure_ (i := 28) (N := some 6) (v := ?_) (a' := ?_) x12a31 rfl rfl (any_of HT_.out (by kernel_rfl)) (fun _ _ _ h => h) (Or.inl ⟨by rfl, ?_⟩) ?_ ?_; rotate_left; (intro w'; go_simp; with_reducible rfl); rotate_left; exact xE
     refine done_ (done_of HT_.out (by kernel_rfl)) ?_
     try go_wp2
     go_roundg k2
     case measure => have := HJ1.out; have := HK2.out; omega
     case rel => exact ⟨(y576), (y584), (wrap64 (x7_2 + 2)), (by first | rfl | (simp; done) | (simp [*]; done)), H', ⟨by have := HJ1.out; have := HK2.out; omega⟩, ⟨by (with_reducible repeat (first | apply Kd.R_alloc | apply Kd.R_drewN | apply Kd.R_drew)); exact Kd.R_mono HO578.out (fun _ hk => hk.2)⟩, ⟨by (with_reducible repeat (first | apply Kd.R_alloc | apply Kd.R_drewN | apply Kd.R_drew)); exact Kd.R_mono HO586.out (fun _ hk => hk.2.1)⟩, ⟨xB HB.out⟩⟩
end Go.Proofs.Ytjplcongellcmaa.PFnPhasesWork
