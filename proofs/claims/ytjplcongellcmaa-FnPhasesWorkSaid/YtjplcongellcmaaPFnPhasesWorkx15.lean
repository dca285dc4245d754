/- What each Go function that the statement FnPhasesWork reaches answers, proved call by call. No condition beyond those that the theorems print. (Written by wip/tools/xprint.py of this repo, over the kit's print.) -/
import Derived.Test.YtjplcongellcmaaPFnPhasesWorkx0
import Derived.Test.YtjplcongellcmaaPFnPhasesWorkx2
import Derived.Test.YtjplcongellcmaaPFnPhasesWorkx3
import Derived.Test.YtjplcongellcmaaPFnPhasesWorkx4
import Derived.Test.YtjplcongellcmaaPFnPhasesWorkx5
import Derived.Test.YtjplcongellcmaaPFnPhasesWorkx6
import Derived.Test.YtjplcongellcmaaPFnPhasesWorkx8
import Derived.Test.YtjplcongellcmaaPFnPhasesWorkx14
namespace Go.Proofs.Ytjplcongellcmaa.PFnPhasesWork
open Go.RowKit Go.Proofs.YtjplcongellcmaaW.PrintWords Go.Proofs.YtjplcongellcmaaW.PrintLast Go.Proofs.YtjplcongellcmaaW.PrintMore
attribute [local go_sem] max2_int min2_int max_two min_two max_three min_three max_four min_four   -- for this text's walks alone
set_option linter.unusedVariables false
set_option linter.unusedSimpArgs false

/-! ### spec_ProductsDirect: function 182 -/
def spec_ProductsDirect.l0 : Nat → List Int → Int → Int → Int → Int → Option (Int × Bool)
 | 0, _, _, _, _, _ => none
 | k + 1, x0, x1, x2, x10, x11 => if x11 < (wrap64 (x1 * x2)) then ((spec_l1Least.f (x0.length : Int) (wrap64 (x11 + 1))).bind fun t675 => (spec_ProductsDirect.l0 k x0 x1 x2 (wrap64 (x10 + t675)) (wrap64 (x11 + 1)))) else (some (x10, true))
def spec_ProductsDirect.f (k : Nat) (l0 : List Int) (a1 : Int) (a2 : Int) (a3 : Int) : Option (Int × Bool) := (spec_rsCount.f k l0 a1 a2 a3).bind fun t674 => (if t674 = true then (spec_ProductsDirect.l0 k l0 a1 a2 0 0) else (some (0, false)))
theorem spec_ProductsDirect.mono_l : ∀ k, (∀ y0 y1 y2 y3 y4, LeO (spec_ProductsDirect.l0 k y0 y1 y2 y3 y4) (spec_ProductsDirect.l0 (k + 1) y0 y1 y2 y3 y4))
 | 0 => fun _ _ _ _ _ r h => by simp [spec_ProductsDirect.l0] at h
 | k + 1 => by
  have ih0 := spec_ProductsDirect.mono_l k
  have m0 := @spec_rsCount.mono
  intros
  unfold spec_ProductsDirect.l0
  exact xM
theorem spec_ProductsDirect.mono : ∀ a0 a1 a2 a3 k, LeO (spec_ProductsDirect.f k a0 a1 a2 a3) (spec_ProductsDirect.f (k + 1) a0 a1 a2 a3) := by
 intro a0 a1 a2 a3 k
 have ih0 := spec_ProductsDirect.mono_l k
 have m0 := @spec_rsCount.mono
 unfold spec_ProductsDirect.f
 exact xM
set_option maxHeartbeats 8000000 in
set_option maxRecDepth 100000 in
theorem spec_ProductsDirect.calls (k : Nat) (A0 : Option Addr) (c0 : Nat) (l0 : List Int) (a1 : Int) (a2 : Int) (a3 : Int) (r1 : Int) (r2 : Bool) (w : World) (hr0 : Kd.C (Kd.int .i64) w A0 l0.length l0) (hc0 : l0.length ≤ c0) (h : spec_ProductsDirect.f k l0 a1 a2 a3 = some (r1, r2)) :
  Calls Try.prog 182 #[.slice A0 l0.length c0, .int .i64 a1, .int .i64 a2, .int .i64 a3] w fun e w' => e = .returned (.tuple #[.int .i64 r1, .bool r2]) ∧ Drawn0 w w' := by
 have HR0 := Aside0.mk hr0
 have HC0 := Aside0.mk hc0
 clear hr0 hc0
 have H : ((spec_rsCount.f k l0 a1 a2 a3).bind fun t674 => (if t674 = true then (spec_ProductsDirect.l0 k l0 a1 a2 0 0) else (some (0, false)))) = some (r1, r2) := h
 clear h
 obtain ⟨t674, A5, H⟩ := xO H
 (try dsimp only at H)
 by_cases c6 : t674 = true
 rotate_left
 ·replace c6 := Bool.eq_false_iff.mpr c6
  subst c6
  rw [if_neg (show ¬ (false = true) by decide)] at H
  simp only [Option.some.injEq, Prod.mk.injEq] at H
  obtain ⟨rfl, rfl⟩ := H
  go_enter Try.func182, Try.ntmps182
  go_wp2_with (first | (refine xG (some 16) Try.func359 #[.slice A0 l0.length c0, .int .i64 a1, .int .i64 a2, .int .i64 a3] ?_; (with_reducible refine (spec_rsCount.calls k _ _ l0 a1 a2 a3 false _ ?side1 ?side2 A5.out).mono ?_); (case side1 => exact xC HR0.out); (case side2 => exact HC0.out); rintro e w' ⟨rfl, ⟨nd, rfl⟩⟩; refine ⟨_, rfl, ?_⟩))
  go_ret2
  exact ⟨by first | rfl | (simp; done) | (simp [*]; done), by repeat (first | exact Drawn0.refl _ | apply Drawn0.step)⟩

 subst c6
 rw [if_pos rfl] at H
 have H' := Aside0.mk H
 clear H
 go_enter Try.func182, Try.ntmps182
 go_wp2_with (first | (refine xG (some 16) Try.func359 #[.slice A0 l0.length c0, .int .i64 a1, .int .i64 a2, .int .i64 a3] ?_; (with_reducible refine (spec_rsCount.calls k _ _ l0 a1 a2 a3 true _ ?side1 ?side2 A5.out).mono ?_); (case side1 => exact xC HR0.out); (case side2 => exact HC0.out); rintro e w' ⟨rfl, ⟨nd, rfl⟩⟩; refine ⟨_, rfl, ?_⟩))
 go_loopg [10, 11] k (fun kq v10 v11 w' => ∃ (x10_1 : Int) (x11_1 : Int), v10 = .int .i64 x10_1 ∧ v11 = .int .i64 x11_1 ∧ Aside0 (spec_ProductsDirect.l0 kq l0 a1 a2 x10_1 x11_1 = some (r1, r2)) ∧ Aside0 (kq ≤ k) ∧ Drawn0 w w')
 case atStart => exact ⟨(0), (0), (by first | rfl | (simp; done) | (simp [*]; done)), (by first | rfl | (simp; done) | (simp [*]; done)), H', ⟨Nat.le_refl _⟩, by repeat (first | exact Drawn0.refl _ | apply Drawn0.step)⟩
 case round =>
  clear H'
  try clear c6
  obtain ⟨x10_1, x11_1, rfl, rfl, HA, HK1, ⟨m1, rfl⟩⟩ := hrel
  cases gk with
  | zero => exact absurd HA.out (by simp [spec_ProductsDirect.l0])
  | succ k1 =>
   have H := HA.out
   clear HA
   simp only [spec_ProductsDirect.l0] at H
   by_cases c7 : x11_1 < (wrap64 (a1 * a2))
   rotate_left
   ·rw [if_neg c7] at H
    have c7b0 : decide (x11_1 < (wrap64 (a1 * a2))) = false := decide_eq_false c7
    clear c7
    simp only [Option.some.injEq, Prod.mk.injEq] at H
    obtain ⟨rfl, rfl⟩ := H
    go_wp2
    go_ret2
    exact ⟨by first | rfl | (simp; done) | (simp [*]; done), by repeat (first | exact Drawn0.refl _ | apply Drawn0.step)⟩
   rw [if_pos c7] at H
   have c7b0 : decide (x11_1 < (wrap64 (a1 * a2))) = true := decide_eq_true c7
   clear c7
   obtain ⟨t675, A8, H⟩ := xO H
   (try dsimp only at H)
   have H' := Aside0.mk H
   clear H
   go_wp2_with (first | (refine xG (some 30) Try.func270 #[.int .i64 (l0.length : Int), .int .i64 (wrap64 (x11_1 + 1))] ?_; (with_reducible refine (spec_l1Least.calls (l0.length : Int) (wrap64 (x11_1 + 1)) t675 _ A8.out).mono ?_); rintro e w' ⟨rfl, ⟨nd, rfl⟩⟩; refine ⟨_, rfl, ?_⟩))
   go_roundg k1
   case measure => have := HK1.out; omega
   case rel => exact ⟨(wrap64 (x10_1 + t675)), (wrap64 (x11_1 + 1)), (by first | rfl | (simp; done) | (simp [*]; done)), (by first | rfl | (simp; done) | (simp [*]; done)), H', ⟨by have := HK1.out; omega⟩, by repeat (first | exact Drawn0.refl _ | apply Drawn0.step)⟩
/-! ### spec_ProductsByPhases: function 183 -/
def spec_ProductsByPhases.f (k : Nat) (l0 : List Int) (a1 : Int) (a2 : Int) (a3 : Int) : Option (Int × Bool) := (spec_rsCount.f k l0 a1 a2 a3).bind fun t676 => (if t676 = true then (if 0 ≤ a1 then (if (a1 : Int).toNat ≤ 35184372088832 then ((spec_rsByPhases.f k l0 (List.replicate (a1 : Int).toNat 0) a2 a3).bind fun bt680 => (some (bt680.2, true))) else (none)) else (none)) else (some (0, false)))
theorem spec_ProductsByPhases.mono : ∀ a0 a1 a2 a3 k, LeO (spec_ProductsByPhases.f k a0 a1 a2 a3) (spec_ProductsByPhases.f (k + 1) a0 a1 a2 a3) := by
 intro a0 a1 a2 a3 k
 have m0 := @spec_rsByPhases.mono
 have m1 := @spec_rsCount.mono
 unfold spec_ProductsByPhases.f
 exact xM
set_option maxHeartbeats 8000000 in
set_option maxRecDepth 100000 in
theorem spec_ProductsByPhases.calls (k : Nat) (A0 : Option Addr) (c0 : Nat) (l0 : List Int) (a1 : Int) (a2 : Int) (a3 : Int) (r1 : Int) (r2 : Bool) (w : World) (hr0 : Kd.C (Kd.int .i64) w A0 l0.length l0) (hc0 : l0.length ≤ c0) (h : spec_ProductsByPhases.f k l0 a1 a2 a3 = some (r1, r2)) :
  Calls Try.prog 183 #[.slice A0 l0.length c0, .int .i64 a1, .int .i64 a2, .int .i64 a3] w fun e w' => e = .returned (.tuple #[.int .i64 r1, .bool r2]) ∧ Below w.heap.size w w' := by
 have HR0 := Aside0.mk hr0
 have HC0 := Aside0.mk hc0
 clear hr0 hc0
 have HB := Aside0.mk (Below.refl w.heap.size w)
 have H : ((spec_rsCount.f k l0 a1 a2 a3).bind fun t676 => (if t676 = true then (if 0 ≤ a1 then (if (a1 : Int).toNat ≤ 35184372088832 then ((spec_rsByPhases.f k l0 (List.replicate (a1 : Int).toNat 0) a2 a3).bind fun bt680 => (some (bt680.2, true))) else (none)) else (none)) else (some (0, false)))) = some (r1, r2) := h
 clear h
 obtain ⟨t676, A5, H⟩ := xO H
 (try dsimp only at H)
 by_cases c6 : t676 = true
 rotate_left
 ·replace c6 := Bool.eq_false_iff.mpr c6
  subst c6
  rw [if_neg (show ¬ (false = true) by decide)] at H
  simp only [Option.some.injEq, Prod.mk.injEq] at H
  obtain ⟨rfl, rfl⟩ := H
  go_enter Try.func183, Try.ntmps183
  go_wp2_with (first | (refine xG (some 16) Try.func359 #[.slice A0 l0.length c0, .int .i64 a1, .int .i64 a2, .int .i64 a3] ?_; (with_reducible refine (spec_rsCount.calls k _ _ l0 a1 a2 a3 false _ ?side1 ?side2 A5.out).mono ?_); (case side1 => exact xC HR0.out); (case side2 => exact HC0.out); rintro e w' ⟨rfl, ⟨nd, rfl⟩⟩; refine ⟨_, rfl, ?_⟩))
  go_ret2
  exact ⟨by first | rfl | (simp [errW_none, errW_some] <;> rfl) | (simp [*, errW_none, errW_some] <;> rfl), xB HB.out⟩

 subst c6
 rw [if_pos rfl] at H
 by_cases c7 : 0 ≤ a1
 rotate_left
 ·rw [if_neg c7] at H
  exact absurd H (by simp)
 rw [if_pos c7] at H
 have c7b0 := eq_true c7
 have c7b1 : decide (0 ≤ a1) = true := decide_eq_true c7
 clear c7
 by_cases c8 : (a1 : Int).toNat ≤ 35184372088832
 rotate_left
 ·rw [if_neg c8] at H
  exact absurd H (by simp)
 rw [if_pos c8] at H
 have c8b0 := eq_true c8
 have c8b1 : decide ((a1 : Int).toNat ≤ 35184372088832) = true := decide_eq_true c8
 clear c8
 obtain ⟨y677, hy677⟩ : ∃ y_ : List Int, y_ = (List.replicate (a1 : Int).toNat 0) := ⟨_, rfl⟩
 replace H : ((spec_rsByPhases.f k l0 y677 a2 a3).bind fun bt680 => (some (bt680.2, true))) = some (r1, r2) := by first | (rw [hy677]; with_reducible exact H) | (have H2_ := (Option.bind_some _ _).symm.trans H; rw [hy677]; with_reducible exact H2_) | (have H2_ := (Option.bind_some _ _).symm.trans H; with_reducible exact H2_) | with_reducible exact H | (rw [hy677]; exact H) | exact H
 have Ny677 := Aside0.mk hy677
 clear hy677
 replace H := Option.bind_eq_some_iff.mp H
 obtain ⟨⟨t680, t681⟩, A90, H⟩ := H
 (try dsimp only at H)
 have A9 := Aside0.mk A90
 clear A90
 simp only [Option.some.injEq, Prod.mk.injEq] at H
 obtain ⟨rfl, rfl⟩ := H
 go_enter Try.func183, Try.ntmps183
 go_wp2_with (first | (refine xG (some 16) Try.func359 #[.slice A0 l0.length c0, .int .i64 a1, .int .i64 a2, .int .i64 a3] ?_; (with_reducible refine (spec_rsCount.calls k _ _ l0 a1 a2 a3 true _ ?side1 ?side2 A5.out).mono ?_); (case side1 => exact xC HR0.out); (case side2 => exact HC0.out); rintro e w' ⟨rfl, ⟨nd, rfl⟩⟩; refine ⟨_, rfl, ?_⟩) | ((with_reducible refine gate_dst (N := 21) rfl ?_); refine Kd.R_make (Kd.int .i64) _ 3 rfl (N := 21) rfl 24 _ _ rfl a1 rfl rfl Try.underlying24 (.int .i64 0) 8 info3 rfl (by decide) (by omega) 0 (ok := fun _ => True) (okp := fun _ => True) rfl (fun _ hk => hk) trivial (of_decide_eq_true (by first | (with_reducible assumption) | assumption)) (Nat.le_trans (Nat.mul_le_mul_right _ (of_decide_eq_true (by first | (with_reducible assumption) | assumption) : a1.toNat ≤ 35184372088832)) (by omega)) (Below.refl _ _) (Nat.le_refl _) ?_; intro v678 w10 ho11 hb hg_ hnew_; clear hg_ hnew_; (first | rw [← Ny677.out] at ho11 | (simp only [Int.reduceToNat] at ho11; rw [← Ny677.out] at ho11)); have HO679 := Aside0.mk (Kd.R_lower ho11 (below_size (xB HB.out))); replace HB := Aside0.mk (below_step (xB HB.out) hb); clear hb ho11; obtain ⟨Ao12, co12, eo12⟩ := Kd.R_slice HO679.out; subst eo12) | (refine xG (some 24) Try.func354 #[.slice A0 l0.length c0, .slice Ao12 y677.length co12, .int .i64 a2, .int .i64 a3] ?_; (with_reducible refine (spec_rsByPhases.calls k _ _ l0 _ _ y677 a2 a3 t680 t681 _ ?side1 ?side2 ?side3 ?side4 A9.out).mono ?_); (case side1 => exact xC (Kd.C_below HR0.out HB.out)); (case side2 => exact HC0.out); (case side3 => exact xC ((Kd.R_reads' HO679.out).2.2)); (case side4 => exact (Kd.R_reads' HO679.out).2.1); rintro e w13 ⟨v682, rfl, ho0, hb⟩; refine ⟨_, rfl, ?_⟩; have HO683 := Aside0.mk (Kd.R_lower (Kd.R_new' ho0 (Kd.R_lt (xR HO679.out))) (below_size (xB HB.out))); replace HO679 := Aside0.mk (Kd.R_elder' (xR HO679.out) (Kd.R_base ho0) hb); replace HB := Aside0.mk (below_step (xB HB.out) hb); (try clear hb); (try clear hb2); (try clear hk); (try clear hi); (try clear ho0)))
 go_ret2
 exact ⟨by first | rfl | (simp [errW_none, errW_some] <;> rfl) | (simp [*, errW_none, errW_some] <;> rfl), xB HB.out⟩
/-! ### spec_DrawDownFilter: function 184 -/
def spec_DrawDownFilter.f (k : Nat) (l0 : List Int) : Option (List Int × List Int × Int) := (spec_l1Cur_ratio.f l0 0 0).bind fun bt685 => ((spec_l1Cur_weights.f k l0 bt685.2.2.1 bt685.2.2.2).bind fun bt689 => ((spec_l1Cur_signal.f k l0 bt689.2.1 bt689.2.2 14 40).bind fun bt694 => (some (bt689.1, bt694.1, bt685.2.1))))
theorem spec_DrawDownFilter.mono : ∀ a0 k, LeO (spec_DrawDownFilter.f k a0) (spec_DrawDownFilter.f (k + 1) a0) := by
 intro a0 k
 have m0 := @spec_l1Cur_signal.mono
 have m1 := @spec_l1Cur_weights.mono
 unfold spec_DrawDownFilter.f
 exact xM
set_option maxHeartbeats 8000000 in
set_option maxRecDepth 100000 in
theorem spec_DrawDownFilter.calls (k : Nat) (A0 : Option Addr) (c0 : Nat) (l0 : List Int) (r1 : List Int) (r2 : List Int) (r3 : Int) (w : World) (hr0 : Kd.C (Kd.int .u8) w A0 l0.length l0) (hc0 : l0.length ≤ c0) (h : spec_DrawDownFilter.f k l0 = some (r1, r2, r3)) :
  Calls Try.prog 184 #[.slice A0 l0.length c0] w fun e w' => ∃ v0_ v1_ : Value, e = .returned (.tuple #[v0_, v1_, .int .i64 r3]) ∧ Kd.R (Kd.int .i64) 3 w' w.heap.size (fun k_ => some k_ ≠ (v1_ : Value).ownBlock) v0_ r1 ∧ Kd.R (Kd.int .i64) 3 w' w.heap.size (fun k_ => some k_ ≠ (v0_ : Value).ownBlock) v1_ r2 ∧ Below w.heap.size w w' := by
 have hu129 := Try.underlying129
 have HR0 := Aside0.mk hr0
 have HC0 := Aside0.mk hc0
 clear hr0 hc0
 have HB := Aside0.mk (Below.refl w.heap.size w)
 have H : ((spec_l1Cur_ratio.f l0 0 0).bind fun bt685 => ((spec_l1Cur_weights.f k l0 bt685.2.2.1 bt685.2.2.2).bind fun bt689 => ((spec_l1Cur_signal.f k l0 bt689.2.1 bt689.2.2 14 40).bind fun bt694 => (some (bt689.1, bt694.1, bt685.2.1))))) = some (r1, r2, r3) := h
 clear h
 replace H := Option.bind_eq_some_iff.mp H
 obtain ⟨⟨t685, t686, t687, t688⟩, A20, H⟩ := H
 (try dsimp only at H)
 have A2 := Aside0.mk A20
 clear A20
 replace H := Option.bind_eq_some_iff.mp H
 obtain ⟨⟨t689, t692, t693⟩, A30, H⟩ := H
 (try dsimp only at H)
 have A3 := Aside0.mk A30
 clear A30
 replace H := Option.bind_eq_some_iff.mp H
 obtain ⟨⟨t694, t697, t698⟩, A40, H⟩ := H
 (try dsimp only at H)
 have A4 := Aside0.mk A40
 clear A40
 simp only [Option.some.injEq, Prod.mk.injEq] at H
 obtain ⟨rfl, rfl, rfl⟩ := H
 go_enter Try.func184, Try.ntmps184
 go_wp2_with (first | (refine xV 10 #[.slice A0 l0.length c0, .int .i64 0, .int .u64 0] 129 ?_; intro gb684 hg w5 hbox hb; have HI684 := Aside0.mk ((show IsS129 w _ gb684 l0 0 0 from ⟨_, _, hbox, (by rw [hg]; exact (below_size (xB HB.out)) : w.heap.size ≤ gb684), HR0.out⟩)); replace HB := Aside0.mk (below_step (xB HB.out) hb); clear hb hbox hg) | (refine xG (some 13) Try.func213 #[.pointer (some ⟨gb684, 0, none⟩)] ?_; (with_reducible refine (spec_l1Cur_ratio.calls gb684 l0 0 0 t685 t686 t687 t688 w _ ?side1 ?side2 A2.out).mono ?_); (case side1 => repeat (first | (with_reducible first | exact HI684.out | apply IsS129.alloc | apply IsS129.drewN | apply IsS129.drew | apply IsS129.set_1 | apply IsS129.set_2) | exact HI684.out)); (case side2 => repeat (first | (with_reducible first | exact HB.out | apply below_alloc | apply pw_below_drewN | apply below_drew1 | refine below_set ?_ (IsS129.ge HI684.out)) | exact HB.out)); rintro e w6 ⟨rfl, hi, hb, hk⟩; refine ⟨_, rfl, ?_⟩; replace HB := Aside0.mk (hb); replace HI684 := Aside0.mk (hi); (try clear hb); (try clear hb2); (try clear hk); (try clear hi)) | (refine xG (some 17) Try.func264 #[.pointer (some ⟨gb684, 0, none⟩)] ?_; (with_reducible refine (spec_l1Cur_weights.calls k gb684 l0 t687 t688 t689 t692 t693 w _ ?side1 ?side2 A3.out).mono ?_); (case side1 => repeat (first | (with_reducible first | exact HI684.out | apply IsS129.alloc | apply IsS129.drewN | apply IsS129.drew | apply IsS129.set_1 | apply IsS129.set_2) | exact HI684.out)); (case side2 => repeat (first | (with_reducible first | exact HB.out | apply below_alloc | apply pw_below_drewN | apply below_drew1 | refine below_set ?_ (IsS129.ge HI684.out)) | exact HB.out)); rintro e w7 ⟨v690, rfl, ho0, hi, hb, hk⟩; refine ⟨_, rfl, ?_⟩; have HO691 := Aside0.mk (Kd.R_lower ho0 (below_size (by repeat (first | (with_reducible first | exact HB.out | apply below_alloc | apply pw_below_drewN | apply below_drew1 | refine below_set ?_ (IsS129.ge HI684.out)) | exact HB.out)))); replace HB := Aside0.mk (hb); replace HI684 := Aside0.mk (hi); (try clear hb); (try clear hb2); (try clear hk); (try clear hi); (try clear ho0)) | (refine xG (some 19) Try.func214 #[.pointer (some ⟨gb684, 0, none⟩), .int .i64 14, .int .i64 40] ?_; (with_reducible refine (spec_l1Cur_signal.calls k gb684 l0 t692 t693 14 40 t694 t697 t698 w _ ?side1 ?side2 A4.out).mono ?_); (case side1 => repeat (first | (with_reducible first | exact HI684.out | apply IsS129.alloc | apply IsS129.drewN | apply IsS129.drew | apply IsS129.set_1 | apply IsS129.set_2) | exact HI684.out)); (case side2 => repeat (first | (with_reducible first | exact HB.out | apply below_alloc | apply pw_below_drewN | apply below_drew1 | refine below_set ?_ (IsS129.ge HI684.out)) | exact HB.out)); rintro e w8 ⟨v695, rfl, ho0, hi, hb, hk⟩; refine ⟨_, rfl, ?_⟩; have HO696 := Aside0.mk (Kd.R_lower (Kd.R_new' ho0 (Kd.R_lt (xR HO691.out))) (below_size (by repeat (first | (with_reducible first | exact HB.out | apply below_alloc | apply pw_below_drewN | apply below_drew1 | refine below_set ?_ (IsS129.ge HI684.out)) | exact HB.out)))); replace HO691 := Aside0.mk (Kd.R_mono (Kd.R_told (Kd.R_oldK (IsS129.apart (show IsS129 w _ gb684 l0 t692 t693 from by repeat (first | (with_reducible first | exact HI684.out | apply IsS129.alloc | apply IsS129.drewN | apply IsS129.drew | apply IsS129.set_1 | apply IsS129.set_2) | exact HI684.out)) (xR HO691.out) (by decide)) hk) (Kd.R_base ho0)) (fun _ h_ => h_.1)); replace HB := Aside0.mk (hb); replace HI684 := Aside0.mk (hi); (try clear hb); (try clear hb2); (try clear hk); (try clear hi); (try clear ho0)))
 go_ret3
 exact ⟨_, _, by first | rfl | (simp [errW_none, errW_some] <;> rfl) | (simp [*, errW_none, errW_some] <;> rfl), by (with_reducible repeat (first | apply Kd.R_alloc | apply Kd.R_drewN | apply Kd.R_drew)); exact Kd.R_mono HO691.out (fun _ hk => hk.2), by (with_reducible repeat (first | apply Kd.R_alloc | apply Kd.R_drewN | apply Kd.R_drew)); exact Kd.R_mono HO696.out (fun _ hk => hk.2), by repeat (first | (with_reducible first | exact HB.out | apply below_alloc | apply pw_below_drewN | apply below_drew1 | refine below_set ?_ (IsS129.ge HI684.out)) | exact HB.out)⟩

/-! ### spec_DownFilter: function 185 -/
def spec_DownFilter.f (k : Nat) (l0 : List Int) (l1 : List Int) (a2 : Int) : Option (List Int × Bool) := (spec_rsAsked.f k l0 l1 1 a2).bind fun t699 => (if t699 = true then ((spec_rsDirect.f k l0 l1 1 a2).bind fun t700 => ((spec_wdIf.f k t700).bind fun bt703 => (some (bt703.1, bt703.2)))) else (some (([] : List Int), false)))
theorem spec_DownFilter.mono : ∀ a0 a1 a2 k, LeO (spec_DownFilter.f k a0 a1 a2) (spec_DownFilter.f (k + 1) a0 a1 a2) := by
 intro a0 a1 a2 k
 have m0 := @spec_rsAsked.mono
 have m1 := @spec_rsDirect.mono
 have m2 := @spec_wdIf.mono
 unfold spec_DownFilter.f
 exact xM
set_option maxHeartbeats 8000000 in
set_option maxRecDepth 100000 in
theorem spec_DownFilter.calls (k : Nat) (A0 : Option Addr) (c0 : Nat) (l0 : List Int) (A1 : Option Addr) (c1 : Nat) (l1 : List Int) (a2 : Int) (r1 : List Int) (r2 : Bool) (w : World) (hr0 : Kd.C (Kd.int .i64) w A0 l0.length l0) (hc0 : l0.length ≤ c0) (hr1 : Kd.C (Kd.int .i64) w A1 l1.length l1) (hc1 : l1.length ≤ c1) (h : spec_DownFilter.f k l0 l1 a2 = some (r1, r2)) :
  Calls Try.prog 185 #[.slice A0 l0.length c0, .slice A1 l1.length c1, .int .i64 a2] w fun e w' => ∃ v0_ : Value, e = .returned (.tuple #[v0_, .bool r2]) ∧ Kd.R (Kd.int .i64) 3 w' w.heap.size (fun _ => True) v0_ r1 ∧ Below w.heap.size w w' := by
 have HR0 := Aside0.mk hr0
 have HC0 := Aside0.mk hc0
 clear hr0 hc0
 have HR1 := Aside0.mk hr1
 have HC1 := Aside0.mk hc1
 clear hr1 hc1
 have HB := Aside0.mk (Below.refl w.heap.size w)
 have H : ((spec_rsAsked.f k l0 l1 1 a2).bind fun t699 => (if t699 = true then ((spec_rsDirect.f k l0 l1 1 a2).bind fun t700 => ((spec_wdIf.f k t700).bind fun bt703 => (some (bt703.1, bt703.2)))) else (some (([] : List Int), false)))) = some (r1, r2) := h
 clear h
 obtain ⟨t699, A4, H⟩ := xO H
 (try dsimp only at H)
 by_cases c5 : t699 = true
 rotate_left
 ·replace c5 := Bool.eq_false_iff.mpr c5
  subst c5
  rw [if_neg (show ¬ (false = true) by decide)] at H
  simp only [Option.some.injEq, Prod.mk.injEq] at H
  obtain ⟨rfl, rfl⟩ := H
  go_enter Try.func185, Try.ntmps185
  go_wp2_with (first | (refine xG (some 11) Try.func351 #[.slice A0 l0.length c0, .slice A1 l1.length c1, .int .i64 1, .int .i64 a2] ?_; (with_reducible refine (spec_rsAsked.calls k _ _ l0 _ _ l1 1 a2 false _ ?side1 ?side2 ?side3 ?side4 A4.out).mono ?_); (case side1 => exact xC HR0.out); (case side2 => exact HC0.out); (case side3 => exact xC HR1.out); (case side4 => exact HC1.out); rintro e w' ⟨rfl, ⟨nd, rfl⟩⟩; refine ⟨_, rfl, ?_⟩))
  go_ret2
  exact ⟨_, by first | rfl | (simp [errW_none, errW_some] <;> rfl) | (simp [*, errW_none, errW_some] <;> rfl), by first | exact Kd.R_nil _ _ _ _ _ | exact Kd.N_nil _ _ _ _ _ | exact Kd.V_nil _ _ _ _ _ | exact Kd.Q_nil _ _ _ _ _ | exact Kd.S_nil _ _ _ _ _, xB HB.out⟩

 subst c5
 rw [if_pos rfl] at H
 obtain ⟨t700, A6, H⟩ := xO H
 (try dsimp only at H)
 replace H := Option.bind_eq_some_iff.mp H
 obtain ⟨⟨t703, t706⟩, A70, H⟩ := H
 (try dsimp only at H)
 have A7 := Aside0.mk A70
 clear A70
 simp only [Option.some.injEq, Prod.mk.injEq] at H
 obtain ⟨rfl, rfl⟩ := H
 go_enter Try.func185, Try.ntmps185
 go_wp2_with (first | (refine xG (some 11) Try.func351 #[.slice A0 l0.length c0, .slice A1 l1.length c1, .int .i64 1, .int .i64 a2] ?_; (with_reducible refine (spec_rsAsked.calls k _ _ l0 _ _ l1 1 a2 true _ ?side1 ?side2 ?side3 ?side4 A4.out).mono ?_); (case side1 => exact xC HR0.out); (case side2 => exact HC0.out); (case side3 => exact xC HR1.out); (case side4 => exact HC1.out); rintro e w' ⟨rfl, ⟨nd, rfl⟩⟩; refine ⟨_, rfl, ?_⟩) | (refine xG (some 16) Try.func352 #[.slice A0 l0.length c0, .slice A1 l1.length c1, .int .i64 1, .int .i64 a2] ?_; (with_reducible refine (spec_rsDirect.calls k _ _ l0 _ _ l1 1 a2 t700 _ ?side1 ?side2 ?side3 ?side4 A6.out).mono ?_); (case side1 => exact xC HR0.out); (case side2 => exact HC0.out); (case side3 => exact xC HR1.out); (case side4 => exact HC1.out); rintro e w8 ⟨v701, rfl, ho0, hb⟩; refine ⟨_, rfl, ?_⟩; have HO702 := Aside0.mk (Kd.R_lower ho0 (below_size (xB HB.out))); replace HB := Aside0.mk (below_step (xB HB.out) hb); (try clear hb); (try clear hb2); (try clear hk); (try clear hi); (try clear ho0); obtain ⟨Ao9, co9, eo9⟩ := Kd.R_slice HO702.out; subst eo9) | (refine xG (some 17) Try.func219 #[.slice Ao9 t700.length co9] ?_; (with_reducible refine (spec_wdIf.calls k (fun k_ => some k_ = (.slice Ao9 t700.length co9 : Value).ownBlock) (.slice Ao9 t700.length co9) t700 t703 t706 w _ ?side1 ?side2 A7.out).mono ?_); (case side1 => repeat (first | (with_reducible first | exact HB.out | apply below_alloc | apply pw_below_drewN | apply below_drew1) | exact HB.out)); (case side2 => exact Kd.R_tight rfl HO702.out); rintro e w10 ⟨v704, rfl, ho0, hb, hkp⟩; refine ⟨_, rfl, ?_⟩; have HO705 := Aside0.mk (Kd.R_mono (ok' := fun k_ => True) ho0 (fun k_ hk_ => trivial)); replace HB := Aside0.mk (hb); clear HO702; (try clear hb); (try clear hkp); (try clear ho0)))
 go_ret2
 exact ⟨_, by first | rfl | (simp [errW_none, errW_some] <;> rfl) | (simp [*, errW_none, errW_some] <;> rfl), xR HO705.out, xB HB.out⟩
/-! ### spec_DrawUpFilter: function 186 -/
def spec_DrawUpFilter.f (k : Nat) (l0 : List Int) : Option (List Int × List Int × Int) := (spec_l1Cur_ratio.f l0 0 0).bind fun bt708 => ((spec_l1Cur_weights.f k l0 bt708.2.2.1 bt708.2.2.2).bind fun bt712 => ((spec_l1Cur_signal.f k l0 bt712.2.1 bt712.2.2 10 40).bind fun bt717 => (some (bt712.1, bt717.1, bt708.1))))
theorem spec_DrawUpFilter.mono : ∀ a0 k, LeO (spec_DrawUpFilter.f k a0) (spec_DrawUpFilter.f (k + 1) a0) := by
 intro a0 k
 have m0 := @spec_l1Cur_signal.mono
 have m1 := @spec_l1Cur_weights.mono
 unfold spec_DrawUpFilter.f
 exact xM
set_option maxHeartbeats 8000000 in
set_option maxRecDepth 100000 in
theorem spec_DrawUpFilter.calls (k : Nat) (A0 : Option Addr) (c0 : Nat) (l0 : List Int) (r1 : List Int) (r2 : List Int) (r3 : Int) (w : World) (hr0 : Kd.C (Kd.int .u8) w A0 l0.length l0) (hc0 : l0.length ≤ c0) (h : spec_DrawUpFilter.f k l0 = some (r1, r2, r3)) :
  Calls Try.prog 186 #[.slice A0 l0.length c0] w fun e w' => ∃ v0_ v1_ : Value, e = .returned (.tuple #[v0_, v1_, .int .i64 r3]) ∧ Kd.R (Kd.int .i64) 3 w' w.heap.size (fun k_ => some k_ ≠ (v1_ : Value).ownBlock) v0_ r1 ∧ Kd.R (Kd.int .i64) 3 w' w.heap.size (fun k_ => some k_ ≠ (v0_ : Value).ownBlock) v1_ r2 ∧ Below w.heap.size w w' := by
 have hu129 := Try.underlying129
 have HR0 := Aside0.mk hr0
 have HC0 := Aside0.mk hc0
 clear hr0 hc0
 have HB := Aside0.mk (Below.refl w.heap.size w)
 have H : ((spec_l1Cur_ratio.f l0 0 0).bind fun bt708 => ((spec_l1Cur_weights.f k l0 bt708.2.2.1 bt708.2.2.2).bind fun bt712 => ((spec_l1Cur_signal.f k l0 bt712.2.1 bt712.2.2 10 40).bind fun bt717 => (some (bt712.1, bt717.1, bt708.1))))) = some (r1, r2, r3) := h
 clear h
 replace H := Option.bind_eq_some_iff.mp H
 obtain ⟨⟨t708, t709, t710, t711⟩, A20, H⟩ := H
 (try dsimp only at H)
 have A2 := Aside0.mk A20
 clear A20
 replace H := Option.bind_eq_some_iff.mp H
 obtain ⟨⟨t712, t715, t716⟩, A30, H⟩ := H
 (try dsimp only at H)
 have A3 := Aside0.mk A30
 clear A30
 replace H := Option.bind_eq_some_iff.mp H
 obtain ⟨⟨t717, t720, t721⟩, A40, H⟩ := H
 (try dsimp only at H)
 have A4 := Aside0.mk A40
 clear A40
 simp only [Option.some.injEq, Prod.mk.injEq] at H
 obtain ⟨rfl, rfl, rfl⟩ := H
 go_enter Try.func186, Try.ntmps186
 go_wp2_with (first | (refine xV 10 #[.slice A0 l0.length c0, .int .i64 0, .int .u64 0] 129 ?_; intro gb707 hg w5 hbox hb; have HI707 := Aside0.mk ((show IsS129 w _ gb707 l0 0 0 from ⟨_, _, hbox, (by rw [hg]; exact (below_size (xB HB.out)) : w.heap.size ≤ gb707), HR0.out⟩)); replace HB := Aside0.mk (below_step (xB HB.out) hb); clear hb hbox hg) | (refine xG (some 13) Try.func213 #[.pointer (some ⟨gb707, 0, none⟩)] ?_; (with_reducible refine (spec_l1Cur_ratio.calls gb707 l0 0 0 t708 t709 t710 t711 w _ ?side1 ?side2 A2.out).mono ?_); (case side1 => repeat (first | (with_reducible first | exact HI707.out | apply IsS129.alloc | apply IsS129.drewN | apply IsS129.drew | apply IsS129.set_1 | apply IsS129.set_2) | exact HI707.out)); (case side2 => repeat (first | (with_reducible first | exact HB.out | apply below_alloc | apply pw_below_drewN | apply below_drew1 | refine below_set ?_ (IsS129.ge HI707.out)) | exact HB.out)); rintro e w6 ⟨rfl, hi, hb, hk⟩; refine ⟨_, rfl, ?_⟩; replace HB := Aside0.mk (hb); replace HI707 := Aside0.mk (hi); (try clear hb); (try clear hb2); (try clear hk); (try clear hi)) | (refine xG (some 17) Try.func264 #[.pointer (some ⟨gb707, 0, none⟩)] ?_; (with_reducible refine (spec_l1Cur_weights.calls k gb707 l0 t710 t711 t712 t715 t716 w _ ?side1 ?side2 A3.out).mono ?_); (case side1 => repeat (first | (with_reducible first | exact HI707.out | apply IsS129.alloc | apply IsS129.drewN | apply IsS129.drew | apply IsS129.set_1 | apply IsS129.set_2) | exact HI707.out)); (case side2 => repeat (first | (with_reducible first | exact HB.out | apply below_alloc | apply pw_below_drewN | apply below_drew1 | refine below_set ?_ (IsS129.ge HI707.out)) | exact HB.out)); rintro e w7 ⟨v713, rfl, ho0, hi, hb, hk⟩; refine ⟨_, rfl, ?_⟩; have HO714 := Aside0.mk (Kd.R_lower ho0 (below_size (by repeat (first | (with_reducible first | exact HB.out | apply below_alloc | apply pw_below_drewN | apply below_drew1 | refine below_set ?_ (IsS129.ge HI707.out)) | exact HB.out)))); replace HB := Aside0.mk (hb); replace HI707 := Aside0.mk (hi); (try clear hb); (try clear hb2); (try clear hk); (try clear hi); (try clear ho0)) | (refine xG (some 19) Try.func214 #[.pointer (some ⟨gb707, 0, none⟩), .int .i64 10, .int .i64 40] ?_; (with_reducible refine (spec_l1Cur_signal.calls k gb707 l0 t715 t716 10 40 t717 t720 t721 w _ ?side1 ?side2 A4.out).mono ?_); (case side1 => repeat (first | (with_reducible first | exact HI707.out | apply IsS129.alloc | apply IsS129.drewN | apply IsS129.drew | apply IsS129.set_1 | apply IsS129.set_2) | exact HI707.out)); (case side2 => repeat (first | (with_reducible first | exact HB.out | apply below_alloc | apply pw_below_drewN | apply below_drew1 | refine below_set ?_ (IsS129.ge HI707.out)) | exact HB.out)); rintro e w8 ⟨v718, rfl, ho0, hi, hb, hk⟩; refine ⟨_, rfl, ?_⟩; have HO719 := Aside0.mk (Kd.R_lower (Kd.R_new' ho0 (Kd.R_lt (xR HO714.out))) (below_size (by repeat (first | (with_reducible first | exact HB.out | apply below_alloc | apply pw_below_drewN | apply below_drew1 | refine below_set ?_ (IsS129.ge HI707.out)) | exact HB.out)))); replace HO714 := Aside0.mk (Kd.R_mono (Kd.R_told (Kd.R_oldK (IsS129.apart (show IsS129 w _ gb707 l0 t715 t716 from by repeat (first | (with_reducible first | exact HI707.out | apply IsS129.alloc | apply IsS129.drewN | apply IsS129.drew | apply IsS129.set_1 | apply IsS129.set_2) | exact HI707.out)) (xR HO714.out) (by decide)) hk) (Kd.R_base ho0)) (fun _ h_ => h_.1)); replace HB := Aside0.mk (hb); replace HI707 := Aside0.mk (hi); (try clear hb); (try clear hb2); (try clear hk); (try clear hi); (try clear ho0)))
 go_ret3
 exact ⟨_, _, by first | rfl | (simp [errW_none, errW_some] <;> rfl) | (simp [*, errW_none, errW_some] <;> rfl), by (with_reducible repeat (first | apply Kd.R_alloc | apply Kd.R_drewN | apply Kd.R_drew)); exact Kd.R_mono HO714.out (fun _ hk => hk.2), by (with_reducible repeat (first | apply Kd.R_alloc | apply Kd.R_drewN | apply Kd.R_drew)); exact Kd.R_mono HO719.out (fun _ hk => hk.2), by repeat (first | (with_reducible first | exact HB.out | apply below_alloc | apply pw_below_drewN | apply below_drew1 | refine below_set ?_ (IsS129.ge HI707.out)) | exact HB.out)⟩

/-! ### spec_UpFilter: function 187 -/
def spec_UpFilter.f (k : Nat) (l0 : List Int) (l1 : List Int) (a2 : Int) : Option (List Int × Bool) := (spec_rsAsked.f k l0 l1 a2 1).bind fun t722 => (if t722 = true then ((spec_rsDirect.f k l0 l1 a2 1).bind fun t723 => ((spec_wdIf.f k t723).bind fun bt726 => (some (bt726.1, bt726.2)))) else (some (([] : List Int), false)))
theorem spec_UpFilter.mono : ∀ a0 a1 a2 k, LeO (spec_UpFilter.f k a0 a1 a2) (spec_UpFilter.f (k + 1) a0 a1 a2) := by
 intro a0 a1 a2 k
 have m0 := @spec_rsAsked.mono
 have m1 := @spec_rsDirect.mono
 have m2 := @spec_wdIf.mono
 unfold spec_UpFilter.f
 exact xM
set_option maxHeartbeats 8000000 in
set_option maxRecDepth 100000 in
theorem spec_UpFilter.calls (k : Nat) (A0 : Option Addr) (c0 : Nat) (l0 : List Int) (A1 : Option Addr) (c1 : Nat) (l1 : List Int) (a2 : Int) (r1 : List Int) (r2 : Bool) (w : World) (hr0 : Kd.C (Kd.int .i64) w A0 l0.length l0) (hc0 : l0.length ≤ c0) (hr1 : Kd.C (Kd.int .i64) w A1 l1.length l1) (hc1 : l1.length ≤ c1) (h : spec_UpFilter.f k l0 l1 a2 = some (r1, r2)) :
  Calls Try.prog 187 #[.slice A0 l0.length c0, .slice A1 l1.length c1, .int .i64 a2] w fun e w' => ∃ v0_ : Value, e = .returned (.tuple #[v0_, .bool r2]) ∧ Kd.R (Kd.int .i64) 3 w' w.heap.size (fun _ => True) v0_ r1 ∧ Below w.heap.size w w' := by
 have HR0 := Aside0.mk hr0
 have HC0 := Aside0.mk hc0
 clear hr0 hc0
 have HR1 := Aside0.mk hr1
 have HC1 := Aside0.mk hc1
 clear hr1 hc1
 have HB := Aside0.mk (Below.refl w.heap.size w)
 have H : ((spec_rsAsked.f k l0 l1 a2 1).bind fun t722 => (if t722 = true then ((spec_rsDirect.f k l0 l1 a2 1).bind fun t723 => ((spec_wdIf.f k t723).bind fun bt726 => (some (bt726.1, bt726.2)))) else (some (([] : List Int), false)))) = some (r1, r2) := h
 clear h
 obtain ⟨t722, A4, H⟩ := xO H
 (try dsimp only at H)
 by_cases c5 : t722 = true
 rotate_left
 ·replace c5 := Bool.eq_false_iff.mpr c5
  subst c5
  rw [if_neg (show ¬ (false = true) by decide)] at H
  simp only [Option.some.injEq, Prod.mk.injEq] at H
  obtain ⟨rfl, rfl⟩ := H
  go_enter Try.func187, Try.ntmps187
  go_wp2_with (first | (refine xG (some 11) Try.func351 #[.slice A0 l0.length c0, .slice A1 l1.length c1, .int .i64 a2, .int .i64 1] ?_; (with_reducible refine (spec_rsAsked.calls k _ _ l0 _ _ l1 a2 1 false _ ?side1 ?side2 ?side3 ?side4 A4.out).mono ?_); (case side1 => exact xC HR0.out); (case side2 => exact HC0.out); (case side3 => exact xC HR1.out); (case side4 => exact HC1.out); rintro e w' ⟨rfl, ⟨nd, rfl⟩⟩; refine ⟨_, rfl, ?_⟩))
  go_ret2
  exact ⟨_, by first | rfl | (simp [errW_none, errW_some] <;> rfl) | (simp [*, errW_none, errW_some] <;> rfl), by first | exact Kd.R_nil _ _ _ _ _ | exact Kd.N_nil _ _ _ _ _ | exact Kd.V_nil _ _ _ _ _ | exact Kd.Q_nil _ _ _ _ _ | exact Kd.S_nil _ _ _ _ _, xB HB.out⟩

 subst c5
 rw [if_pos rfl] at H
 obtain ⟨t723, A6, H⟩ := xO H
 (try dsimp only at H)
 replace H := Option.bind_eq_some_iff.mp H
 obtain ⟨⟨t726, t729⟩, A70, H⟩ := H
 (try dsimp only at H)
 have A7 := Aside0.mk A70
 clear A70
 simp only [Option.some.injEq, Prod.mk.injEq] at H
 obtain ⟨rfl, rfl⟩ := H
 go_enter Try.func187, Try.ntmps187
 go_wp2_with (first | (refine xG (some 11) Try.func351 #[.slice A0 l0.length c0, .slice A1 l1.length c1, .int .i64 a2, .int .i64 1] ?_; (with_reducible refine (spec_rsAsked.calls k _ _ l0 _ _ l1 a2 1 true _ ?side1 ?side2 ?side3 ?side4 A4.out).mono ?_); (case side1 => exact xC HR0.out); (case side2 => exact HC0.out); (case side3 => exact xC HR1.out); (case side4 => exact HC1.out); rintro e w' ⟨rfl, ⟨nd, rfl⟩⟩; refine ⟨_, rfl, ?_⟩) | (refine xG (some 16) Try.func352 #[.slice A0 l0.length c0, .slice A1 l1.length c1, .int .i64 a2, .int .i64 1] ?_; (with_reducible refine (spec_rsDirect.calls k _ _ l0 _ _ l1 a2 1 t723 _ ?side1 ?side2 ?side3 ?side4 A6.out).mono ?_); (case side1 => exact xC HR0.out); (case side2 => exact HC0.out); (case side3 => exact xC HR1.out); (case side4 => exact HC1.out); rintro e w8 ⟨v724, rfl, ho0, hb⟩; refine ⟨_, rfl, ?_⟩; have HO725 := Aside0.mk (Kd.R_lower ho0 (below_size (xB HB.out))); replace HB := Aside0.mk (below_step (xB HB.out) hb); (try clear hb); (try clear hb2); (try clear hk); (try clear hi); (try clear ho0); obtain ⟨Ao9, co9, eo9⟩ := Kd.R_slice HO725.out; subst eo9) | (refine xG (some 17) Try.func219 #[.slice Ao9 t723.length co9] ?_; (with_reducible refine (spec_wdIf.calls k (fun k_ => some k_ = (.slice Ao9 t723.length co9 : Value).ownBlock) (.slice Ao9 t723.length co9) t723 t726 t729 w _ ?side1 ?side2 A7.out).mono ?_); (case side1 => repeat (first | (with_reducible first | exact HB.out | apply below_alloc | apply pw_below_drewN | apply below_drew1) | exact HB.out)); (case side2 => exact Kd.R_tight rfl HO725.out); rintro e w10 ⟨v727, rfl, ho0, hb, hkp⟩; refine ⟨_, rfl, ?_⟩; have HO728 := Aside0.mk (Kd.R_mono (ok' := fun k_ => True) ho0 (fun k_ hk_ => trivial)); replace HB := Aside0.mk (hb); clear HO725; (try clear hb); (try clear hkp); (try clear ho0)))
 go_ret2
 exact ⟨_, by first | rfl | (simp [errW_none, errW_some] <;> rfl) | (simp [*, errW_none, errW_some] <;> rfl), xR HO728.out, xB HB.out⟩
end Go.Proofs.Ytjplcongellcmaa.PFnPhasesWork
