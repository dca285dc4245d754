/- What each Go function that the statement FnFirstRuns reaches answers, proved call by call. No condition beyond those that the theorems print. (Written by wip/tools/xprint.py of this repo, over the kit's print.) -/
import Derived.Test.YtjplcongellcmaaPFnFirstRunsx0
import Derived.Test.YtjplcongellcmaaPFnFirstRunsx1
import Derived.Test.YtjplcongellcmaaPFnFirstRunsx4
import Derived.Test.YtjplcongellcmaaPFnFirstRunsx5
import Derived.Test.YtjplcongellcmaaPFnFirstRunsx6
namespace Go.Proofs.Ytjplcongellcmaa.PFnFirstRuns
open Go.RowKit Go.Proofs.YtjplcongellcmaaW.PrintWords Go.Proofs.YtjplcongellcmaaW.PrintLast Go.Proofs.YtjplcongellcmaaW.PrintMore
attribute [local go_sem] max2_int min2_int max_two min_two max_three min_three max_four min_four   -- for this text's walks alone
set_option linter.unusedVariables false
set_option linter.unusedSimpArgs false

/-! ### impl_ExactFirst_c1: function 288 (a closure that holds the two boxes) -/
set_option maxHeartbeats 200000000 in
set_option maxRecDepth 100000 in
theorem impl_ExactFirst_c1.calls (a0 b0 b1 b2 b3 : Int) (b4 : Bool) (y : Int) (w : World) (q0 q1 : Nat) (hq0 : w.heap[q0]? = some (.cells #[.int .i64 b0, .int .i64 b1, .int .i64 b2, .int .i64 b3, .bool b4] 62 (0, 0))) (hq1 : w.heap[q1]? = some (.cells #[.int .i64 y] 3 (0, 0))) :
  Calls Try.prog 288 #[.int .i64 a0, .pointer (some ⟨q0, 0, none⟩), .pointer (some ⟨q1, 0, none⟩)] w fun e w' => e = .returned (.int .i64 (wrap64 (b0 * y))) ∧ Drawn0 w w' := by
 have hu62 := Try.underlying62
 have hcq0 : w.cell? ⟨q0, 0, none⟩ = some (.int .i64 b0) := (blk_cell hq0 0).trans rfl
 have hcq1 : w.cell? ⟨q1, 0, none⟩ = some (.int .i64 y) := (blk_cell hq1 0).trans rfl
 clear hq0 hq1
 go_enter Try.func288, Try.ntmps288
 go_wp2
 go_ret
 exact ⟨by first | rfl | (simp; done) | (simp [*]; done), by repeat (first | exact Drawn0.refl _ | apply Drawn0.step)⟩
/-! ### impl_ExactFirst_c2: function 289 (a closure that puts into the box) -/
set_option maxHeartbeats 200000000 in
set_option maxRecDepth 100000 in
theorem impl_ExactFirst_c2.calls (a0 y : Int) (w0 w : World) (q1 : Nat) (hq1 : w.heap[q1]? = some (.cells #[.int .i64 y] 3 (0, 0))) (hB : Below w0.heap.size w0 w) (hge : w0.heap.size ≤ q1) :
  Calls Try.prog 289 #[.int .i64 a0, .pointer (some ⟨q1, 0, none⟩)] w fun e w' => e = .returned (.tuple #[]) ∧ w'.heap[q1]? = some (.cells #[.int .i64 a0] 3 (0, 0)) ∧ Below w0.heap.size w0 w' ∧ KeepBut w w' q1 none := by
 have HK := xA (KeepBut.refl w q1 none)
 have HB := xA hB
 have HG := xA hge
 have BK := xA hq1
 clear hB hge
 have hcq1 : w.cell? ⟨q1, 0, none⟩ = some (.int .i64 y) := (blk_cell hq1 0).trans rfl
 have hfq1 := blk_frozen hq1 0
 clear hq1
 go_enter Try.func289, Try.ntmps289
 go_wp2
 (first | go_end0 | ((try simp only [Exit.inBlock, Exit.then]); refine bodyPost_ret (results_none rfl _ _ _) rfl ?_))
 exact ⟨by first | rfl | (simp; done), blk_put BK.out 0 _ rfl, below_set HB.out HG.out, KeepBut.set_ HK.out 0 _⟩
/-! ### impl_ExactFirst_ex: function 287, the road through the list -/
def impl_ExactFirst_ex.l0 : Nat → Int → List Int → Int → Int → List Int → Int → Int → Option (List Int × Bool)
 | 0, _, _, _, _, _, _, _ => none
 | k + 1, y, x10, x11, x18, l0, a1, b0 => if x18 < (l0.length : Int) then (if 0 ≤ x18 then (if 0 ≤ a1 then ((impl_isNumber.f (shl .i64 x11 a1)).bind fun t1 => (if t1 = true then ((impl_isNumber.f (wrap64 ((wrap64 (b0 * y)) + (wrap64 ((rd l0 x18) * (shl .i64 x11 a1)))))).bind fun t2 => (if t2 = true then (if x10.length < 17592186044416 then (impl_ExactFirst_ex.l0 k (wrap64 ((wrap64 (b0 * y)) + (wrap64 ((rd l0 x18) * (shl .i64 x11 a1))))) (x10 ++ [wrap64 ((wrap64 (b0 * y)) + (wrap64 ((rd l0 x18) * (shl .i64 x11 a1))))]) (shl .i64 x11 a1) (wrap64 (x18 + 1)) l0 a1 b0) else none) else (some (([] : List Int), false)))) else (some (([] : List Int), false)))) else none) else none) else (some (x10, true))
theorem impl_ExactFirst_ex.mono_l : ∀ k, (∀ y0 y1 y2 y3 y4 y5 y6, LeO (impl_ExactFirst_ex.l0 k y0 y1 y2 y3 y4 y5 y6) (impl_ExactFirst_ex.l0 (k + 1) y0 y1 y2 y3 y4 y5 y6))
 | 0 => fun _ _ _ _ _ _ _ r h => by simp [impl_ExactFirst_ex.l0] at h
 | k + 1 => by
  have ih0 := impl_ExactFirst_ex.mono_l k
  intros
  unfold impl_ExactFirst_ex.l0
  exact xM
theorem impl_ExactFirst_ex.farB {e base : Nat} {v : Value} {xs : List Int} {w w1 : World} {q1 : Nat} (h : Kd.R (Kd.int .i64) e w base (fun _ => True) v xs) (hk : KeepBut w w1 q1 none) (hq : q1 < base) : Kd.R (Kd.int .i64) e w1 base (fun _ => True) v xs :=
 Kd.R_mono (Kd.R_keep (Kd.R_mono (Kd.R_bound h) (fun k hk => (⟨trivial, hk.2.1⟩ : (fun k => True ∧ base ≤ k) k))) hk (fun k ho => by have := ho.2; omega)) (fun _ _ => trivial)
set_option maxHeartbeats 200000000 in
set_option maxRecDepth 100000 in
theorem impl_ExactFirst_ex.calls (k : Nat) (A0 : Option Addr) (c0 : Nat) (l0 : List Int) (a1 b0 b1 b2 b3 : Int) (b4 : Bool) (y : Int) (r1 : List Int) (r2 : Bool) (w0 w : World) (q0 q1 : Nat) (hq0 : w.heap[q0]? = some (.cells #[.int .i64 b0, .int .i64 b1, .int .i64 b2, .int .i64 b3, .bool b4] 62 (0, 0))) (hq1 : w.heap[q1]? = some (.cells #[.int .i64 y] 3 (0, 0))) (hr0 : Kd.C (Kd.int .i64) w0 A0 l0.length l0) (hc0 : l0.length ≤ c0) (hB : Below w0.heap.size w0 w) (hg1 : w0.heap.size ≤ q1) (hne : q0 ≠ q1) (h : impl_ExactFirst_ex.l0 k y ([] : List Int) 1 0 l0 a1 b0 = some (r1, r2)) :
  Calls Try.prog 287 #[.slice A0 l0.length c0, .int .i64 a1, .func (.func 288) #[] #[.pointer (some ⟨q0, 0, none⟩), .pointer (some ⟨q1, 0, none⟩)], .func (.func 289) #[] #[.pointer (some ⟨q1, 0, none⟩)]] w fun e w' => ∃ v0_ : Value, e = .returned (.tuple #[v0_, .bool r2]) ∧ Kd.R (Kd.int .i64) 3 w' w.heap.size (fun _ => True) v0_ r1 ∧ Below w0.heap.size w0 w' := by
 have HR0 := xA hr0
 have HC0 := xA hc0
 have HB := xA hB
 have HW := xA hB.size
 have HG1 := xA hg1
 have HNE := xA hne
 have HQ0 := xA (blk_lt hq0)
 have HQ1 := xA (blk_lt hq1)
 have BK0 := xA hq0
 have BK1 := xA hq1
 have H' := xA h
 clear hr0 hc0 hB hg1 hne hq0 hq1 h
 go_enter Try.func287, Try.ntmps287
 go_wp2_with (first | ((with_reducible refine gate_dst (N := 15) rfl ?_); refine Kd.R_lit (Kd.int .i64) _ 3 ?hg (N := 15) ?hd (xs := ([] : List Int)) (inner := []) (ok := fun _ => True) (okp := fun _ => True) ?hr ?hp (fun _ hk => hk) trivial (Below.refl _ _) (Nat.le_refl _) (by simp) ?_; (case hd => rfl); (case hg => rfl); (case hr => first | (go_simp; done) | (go_simp; rfl)); (case hp => exact (Reps.none _ _)); intro v311 w5 ho6 hb hg_ hnew_; clear hg_ hnew_; have n0_ := xA ho6; have n1_ := xA (blk_below (by ((with_reducible repeat (first | refine blk_drewN ?_ _ | refine blk_drew ?_ | refine blk_alloc ?_ _)); exact BK0.out)) hb); have n2_ := xA (blk_below (by ((with_reducible repeat (first | refine blk_drewN ?_ _ | refine blk_drew ?_ | refine blk_alloc ?_ _)); exact BK1.out)) hb); have n3_ := xA (below_step (xB HB.out) hb); have n4_ := xA hb.size; clear BK0 BK1 HB; have HO_8 := n0_; have BK0 := n1_; have BK1 := n2_; have HB := n3_; have HS := n4_; clear n0_ n1_ n2_ n3_ n4_ hb ho6))
 go_loopg [10, 11, 18] k (fun kq v10 v11 v18 w' => ∃ (y_1 : Int) (x10_1 : List Int) (x11_1 x18_1 : Int), v11 = .int .i64 x11_1 ∧ v18 = .int .i64 x18_1 ∧ Aside0 (impl_ExactFirst_ex.l0 kq y_1 x10_1 x11_1 x18_1 l0 a1 b0 = some (r1, r2)) ∧ Aside0 (kq ≤ k) ∧ Aside0 (Kd.R (Kd.int .i64) 3 w' w.heap.size (fun _ => True) v10 x10_1) ∧ Aside0 (w'.heap[q0]? = some (.cells #[.int .i64 b0, .int .i64 b1, .int .i64 b2, .int .i64 b3, .bool b4] 62 (0, 0))) ∧ Aside0 (w'.heap[q1]? = some (.cells #[.int .i64 y_1] 3 (0, 0))) ∧ Aside0 (Below w0.heap.size w0 w') ∧ Aside0 (w.heap.size ≤ w'.heap.size))
 case atStart => exact ⟨y, ([] : List Int), 1, 0, xs, xs, H', ⟨Nat.le_refl _⟩, ⟨xR HO_8.out⟩, ⟨by ((with_reducible repeat (first | refine blk_drewN ?_ _ | refine blk_drew ?_ | refine blk_alloc ?_ _)); exact BK0.out)⟩, ⟨by ((with_reducible repeat (first | refine blk_drewN ?_ _ | refine blk_drew ?_ | refine blk_alloc ?_ _)); exact BK1.out)⟩, ⟨(xB HB.out)⟩, ⟨HS.out⟩⟩
 case round =>
  clear H' BK0 BK1 HB HO_8 HS
  try clear c0
  obtain ⟨y_1, x10_1, x11_1, x18_1, rfl, rfl, HA, HK1, HO_8, BK0, BK1, HB, HS⟩ := hrel
  cases gk with
  | zero => exact absurd HA.out (by simp [impl_ExactFirst_ex.l0])
  | succ k1 =>
   have H := HA.out
   clear HA
   simp only [impl_ExactFirst_ex.l0] at H
   by_cases c5 : x18_1 < (l0.length : Int)
   rotate_left
   ·rw [if_neg c5] at H
    have c5b0 : decide (x18_1 < (l0.length : Int)) = false := decide_eq_false c5
    clear c5
    simp only [Option.some.injEq, Prod.mk.injEq] at H
    obtain ⟨rfl, rfl⟩ := H
    go_wp2
    go_ret2
    exact ⟨_, xr, xR HO_8.out, (xB HB.out)⟩
   rw [if_pos c5] at H
   have c5b0 : decide (x18_1 < (l0.length : Int)) = true := decide_eq_true c5
   by_cases c6 : 0 ≤ x18_1
   rotate_left
   ·rw [if_neg c6] at H
    exact absurd H (by simp)
   rw [if_pos c6] at H
   have c6b0 : decide (0 ≤ x18_1) = true := decide_eq_true c6
   by_cases c8 : 0 ≤ a1
   rotate_left
   ·rw [if_neg c8] at H
    exact absurd H (by simp)
   rw [if_pos c8] at H
   have c8b0 := eq_true c8
   have c8b1 : decide (0 ≤ a1) = true := decide_eq_true c8
   clear c8
   obtain ⟨ad371, e371, hx371_0⟩ := Kd.at_int HR0.out x18_1 c6 c5
   cases e371
   replace hx371_0 := (HB.out.cell (World.block_lt_of_cell? w0 _ hx371_0)).trans hx371_0
   replace c5 := eq_true c5
   replace c6 := eq_true c6
   obtain ⟨ji9, hji9⟩ : ∃ j_ : Int, (shl .i64 x11_1 a1) = j_ := ⟨_, rfl⟩
   rw [hji9] at H
   obtain ⟨hji9_, hji9z, hji9y, hji9x⟩ := xSh hji9
   obtain ⟨t1, A1, H⟩ := xO H
   (try dsimp only at H)
   by_cases c9 : t1 = true
   rotate_left
   ·replace c9 := Bool.eq_false_iff.mpr c9
    subst c9
    rw [if_neg (show ¬ (false = true) by decide)] at H
    simp only [Option.some.injEq, Prod.mk.injEq] at H
    obtain ⟨rfl, rfl⟩ := H
    go_wp2_with (first | (go_at_call 288; (with_reducible refine (impl_ExactFirst_c1.calls x18_1 b0 b1 b2 b3 b4 y_1 _ q0 q1 ?sq0 ?sq1).mono ?_); (case sq0 => ((with_reducible repeat (first | refine blk_drewN ?_ _ | refine blk_drew ?_ | refine blk_alloc ?_ _)); exact BK0.out)); (case sq1 => ((with_reducible repeat (first | refine blk_drewN ?_ _ | refine blk_drew ?_ | refine blk_alloc ?_ _)); exact BK1.out)); rintro e w' ⟨rfl, ⟨nd, rfl⟩⟩) | ((with_reducible refine gate_callee (f := 262) rfl ?_); refine goesL_ (some 34) rfl rfl Try.func262 (by kernel_rfl) rfl #[.int .i64 ji9] rfl (by (try simp only [List.map_toArray, List.map_cons, List.map_nil]); first | done | (simp only [hji9]; rfl) | rfl | (simp only [List.length_drop, List.length_take]; rfl)) ?_; (with_reducible refine (impl_isNumber.calls ji9 false _ A1.out).mono ?_); rintro e w' ⟨rfl, ⟨nd, rfl⟩⟩; refine ⟨_, rfl, ?_⟩))
    go_ret2
    exact ⟨_, by first | rfl | (simp [errW_none, errW_some] <;> rfl) | (simp only [← hji9]; first | rfl | (simp [errW_none, errW_some] <;> rfl)) | (simp [*, errW_none, errW_some] <;> rfl), Kd.R_nil _ _ _ _ _, (xB HB.out)⟩
   subst c9
   rw [if_pos rfl] at H
   obtain ⟨t2, A2, H⟩ := xO H
   (try dsimp only at H)
   by_cases c10 : t2 = true
   rotate_left
   ·replace c10 := Bool.eq_false_iff.mpr c10
    subst c10
    rw [if_neg (show ¬ (false = true) by decide)] at H
    simp only [Option.some.injEq, Prod.mk.injEq] at H
    obtain ⟨rfl, rfl⟩ := H
    go_wp2_with (first | (go_at_call 288; (with_reducible refine (impl_ExactFirst_c1.calls x18_1 b0 b1 b2 b3 b4 y_1 _ q0 q1 ?sq0 ?sq1).mono ?_); (case sq0 => ((with_reducible repeat (first | refine blk_drewN ?_ _ | refine blk_drew ?_ | refine blk_alloc ?_ _)); exact BK0.out)); (case sq1 => ((with_reducible repeat (first | refine blk_drewN ?_ _ | refine blk_drew ?_ | refine blk_alloc ?_ _)); exact BK1.out)); rintro e w' ⟨rfl, ⟨nd, rfl⟩⟩) | ((with_reducible refine gate_callee (f := 262) rfl ?_); refine goesL_ (some 34) rfl rfl Try.func262 (by kernel_rfl) rfl #[.int .i64 ji9] rfl (by (try simp only [List.map_toArray, List.map_cons, List.map_nil]); first | done | (simp only [hji9]; rfl) | rfl | (simp only [List.length_drop, List.length_take]; rfl)) ?_; (with_reducible refine (impl_isNumber.calls ji9 true _ A1.out).mono ?_); rintro e w' ⟨rfl, ⟨nd, rfl⟩⟩; refine ⟨_, rfl, ?_⟩) | (go_at_call 262; (with_reducible refine (impl_isNumber.calls (wrap64 ((wrap64 (b0 * y_1)) + (wrap64 ((rd l0 x18_1) * ji9)))) false _ A2.out).mono ?_); rintro e w' ⟨rfl, ⟨nd, rfl⟩⟩))
    go_ret2
    exact ⟨_, by first | rfl | (simp [errW_none, errW_some] <;> rfl) | (simp only [← hji9]; first | rfl | (simp [errW_none, errW_some] <;> rfl)) | (simp [*, errW_none, errW_some] <;> rfl), Kd.R_nil _ _ _ _ _, (xB HB.out)⟩
   subst c10
   rw [if_pos rfl] at H
   by_cases c14 : x10_1.length < 17592186044416
   rotate_left
   ·rw [if_neg c14] at H
    exact absurd H (by simp)
   rw [if_pos c14] at H
   have LMc14 := xA c14
   clear c14
   obtain ⟨y373, hy373⟩ : ∃ y_ : List Int, y_ = (x10_1 ++ [(wrap64 ((wrap64 (b0 * y_1)) + (wrap64 ((rd l0 x18_1) * ji9))))]) := ⟨_, rfl⟩
   rw [← hy373] at H
   have Ny := xA hy373
   clear hy373
   have H' := xA H
   clear H
   go_wp2_with (first | (go_at_call 288; (with_reducible refine (impl_ExactFirst_c1.calls x18_1 b0 b1 b2 b3 b4 y_1 _ q0 q1 ?sq0 ?sq1).mono ?_); (case sq0 => ((with_reducible repeat (first | refine blk_drewN ?_ _ | refine blk_drew ?_ | refine blk_alloc ?_ _)); exact BK0.out)); (case sq1 => ((with_reducible repeat (first | refine blk_drewN ?_ _ | refine blk_drew ?_ | refine blk_alloc ?_ _)); exact BK1.out)); rintro e w' ⟨rfl, ⟨nd, rfl⟩⟩) | ((with_reducible refine gate_callee (f := 262) rfl ?_); refine goesL_ (some 34) rfl rfl Try.func262 (by kernel_rfl) rfl #[.int .i64 ji9] rfl (by (try simp only [List.map_toArray, List.map_cons, List.map_nil]); first | done | (simp only [hji9]; rfl) | rfl | (simp only [List.length_drop, List.length_take]; rfl)) ?_; (with_reducible refine (impl_isNumber.calls ji9 true _ A1.out).mono ?_); rintro e w' ⟨rfl, ⟨nd, rfl⟩⟩; refine ⟨_, rfl, ?_⟩) | (go_at_call 262; (with_reducible refine (impl_isNumber.calls (wrap64 ((wrap64 (b0 * y_1)) + (wrap64 ((rd l0 x18_1) * ji9)))) true _ A2.out).mono ?_); rintro e w' ⟨rfl, ⟨nd, rfl⟩⟩) | ((with_reducible refine gate_builtin (b := .append) (xs := #[.tmp 41, .tmp 43]) rfl ?_); at_builtin; refine Kd.R_append (Kd.int .i64) (w0 := ?bw) w.heap.size rfl (.tmp 41) (.tmp 43) 24 3 (.int .i64 0) 8 rfl Try.underlying24 info3 rfl (by decide) (by omega) u10 x10_1 (wrap64 ((wrap64 (b0 * y_1)) + (wrap64 ((rd l0 x18_1) * ji9)))) [.int .i64 (wrap64 ((wrap64 (b0 * y_1)) + (wrap64 ((rd l0 x18_1) * ji9))))] (fun _ => True) (fun _ => False) rfl rfl ?aP (fun _ hk => hk.elim) ?aF ?aO ?aB ?aS ?aL ?_; (case aB => exact Below.refl _ _); (case aP => exact rfl); (case aF => exact (fun _ _ => trivial)); (case aO => exact (xR HO_8.out)); (case aS => exact HS.out); (case aL => have := LMc14.out; omega); intro v374 w16 ho hb hg hat; rw [← Ny.out] at ho; have HOX := HO_8; have n0_ := xA (blk_grown (g := q0) (o := .cells #[.int .i64 b0, .int .i64 b1, .int .i64 b2, .int .i64 b3, .bool b4] 62 (0, 0)) (by ((with_reducible repeat (first | refine blk_drewN ?_ _ | refine blk_drew ?_ | refine blk_alloc ?_ _)); exact BK0.out)) hg (fun e_ => Nat.not_le_of_lt HQ0.out (Kd.R_base HOX.out q0 e_.symm))); have n1_ := xA (blk_grown (g := q1) (o := .cells #[.int .i64 y_1] 3 (0, 0)) (by ((with_reducible repeat (first | refine blk_drewN ?_ _ | refine blk_drew ?_ | refine blk_alloc ?_ _)); exact BK1.out)) hg (fun e_ => Nat.not_le_of_lt HQ1.out (Kd.R_base HOX.out q1 e_.symm))); have n2_ := xA (ho); have n3_ := xA (Below.trans (xB HB.out) (hb.mono HW.out)); have n4_ := xA (Nat.le_trans HS.out hb.size); clear BK0 BK1 HB HO_8 HS; have BK0 := n0_; have BK1 := n1_; have HO_9 := n2_; have HB := n3_; have HS := n4_; clear n0_ n1_ n2_ n3_ n4_ ho hb hg hat HOX) | (go_at_call 289; (with_reducible refine (impl_ExactFirst_c2.calls (wrap64 ((wrap64 (b0 * y_1)) + (wrap64 ((rd l0 x18_1) * ji9)))) y_1 w0 _ q1 ?sq1 ?sB ?sg).mono ?_); (case sq1 => ((with_reducible repeat (first | refine blk_drewN ?_ _ | refine blk_drew ?_ | refine blk_alloc ?_ _)); exact BK1.out)); (case sB => exact (xB HB.out)); (case sg => exact HG1.out); rintro e w17 ⟨rfl, hbk, hb, hk⟩; have n0_ := xA (KeepBut.blk hk (by ((with_reducible repeat (first | refine blk_drewN ?_ _ | refine blk_drew ?_ | refine blk_alloc ?_ _)); exact BK0.out)) HNE.out (by simp)); have n1_ := xA hbk; have n2_ := xA (impl_ExactFirst_ex.farB (xR HO_9.out) hk HQ1.out); have n3_ := xA hb; have n4_ := xA (Nat.le_trans HS.out hk.1); clear BK0 BK1 HB HO_9 HS; have BK0 := n0_; have BK1 := n1_; have HO_9 := n2_; have HB := n3_; have HS := n4_; clear n0_ n1_ n2_ n3_ n4_ hbk hb hk))
   go_roundg k1
   case measure => clear hji9_ hji9z hji9y hji9x hji9 c8b0 c8b1 c5b0 c6b0; have := HK1.out; omega
   case rel => exact ⟨(wrap64 ((wrap64 (b0 * y_1)) + (wrap64 ((rd l0 x18_1) * ji9)))), y373, ji9, (wrap64 (x18_1 + 1)), (by first | rfl | (simp; done) | (simp only [← hji9] <;> (first | rfl | simp)) | (simp [*]; done)), xs, H', ⟨Nat.le_of_succ_le HK1.out⟩, ⟨xR HO_9.out⟩, ⟨by ((with_reducible repeat (first | refine blk_drewN ?_ _ | refine blk_drew ?_ | refine blk_alloc ?_ _)); exact BK0.out)⟩, ⟨by ((with_reducible repeat (first | refine blk_drewN ?_ _ | refine blk_drew ?_ | refine blk_alloc ?_ _)); exact BK1.out)⟩, ⟨(xB HB.out)⟩, ⟨HS.out⟩⟩
/-! ### impl_ExactFirst: function 89 -/
def impl_ExactFirst.f (k : Nat) (a0_0 : Int) (a0_1 : Int) (a0_2 : Int) (a0_3 : Int) (a0_4 : Bool) (a1 : Int) (l2 : List Int) : Option (List Int × Bool) := (impl_First_isAt.f a0_0 a0_1 a0_2 a0_3 a0_4 a1).bind fun t1 => (if t1 = true then ((impl_isSignal.f k l2).bind fun t2 => (if t2 = true then (impl_ExactFirst_ex.l0 k a1 ([] : List Int) 1 0 l2 a0_1 a0_0) else (some (([] : List Int), false)))) else (some (([] : List Int), false)))
theorem impl_ExactFirst.mono : ∀ a0 a1 a2 a3 a4 a5 a6 k, LeO (impl_ExactFirst.f k a0 a1 a2 a3 a4 a5 a6) (impl_ExactFirst.f (k + 1) a0 a1 a2 a3 a4 a5 a6) := by
 intro a0 a1 a2 a3 a4 a5 a6 k
 have ih0 := impl_ExactFirst_ex.mono_l k
 have m0 := @impl_isSignal.mono
 unfold impl_ExactFirst.f
 exact xM
set_option maxHeartbeats 200000000 in
set_option maxRecDepth 100000 in
theorem impl_ExactFirst.calls (k : Nat) (a0_0 : Int) (a0_1 : Int) (a0_2 : Int) (a0_3 : Int) (a0_4 : Bool) (a1 : Int) (A2 : Option Addr) (c2 : Nat) (l2 : List Int) (r1 : List Int) (r2 : Bool) (w : World) (hr2 : Kd.C (Kd.int .i64) w A2 l2.length l2) (hc2 : l2.length ≤ c2) (h : impl_ExactFirst.f k a0_0 a0_1 a0_2 a0_3 a0_4 a1 l2 = some (r1, r2)) :
  Calls Try.prog 89 #[.agg #[.int .i64 a0_0, .int .i64 a0_1, .int .i64 a0_2, .int .i64 a0_3, .bool a0_4], .int .i64 a1, .slice A2 l2.length c2] w fun e w' => ∃ v0_ : Value, e = .returned (.tuple #[v0_, .bool r2]) ∧ Kd.R (Kd.int .i64) 3 w' w.heap.size (fun _ => True) v0_ r1 ∧ Below w.heap.size w w' := by
 have hu62 := Try.underlying62
 have HR2 := xA hr2
 have HC2 := xA hc2
 clear hr2 hc2
 have HB := xA (Below.refl w.heap.size w)
 have H : ((impl_First_isAt.f a0_0 a0_1 a0_2 a0_3 a0_4 a1).bind fun t1 => (if t1 = true then ((impl_isSignal.f k l2).bind fun t2 => (if t2 = true then (impl_ExactFirst_ex.l0 k a1 ([] : List Int) 1 0 l2 a0_1 a0_0) else (some (([] : List Int), false)))) else (some (([] : List Int), false)))) = some (r1, r2) := h
 clear h
 obtain ⟨t1, A1, H⟩ := xO H
 (try dsimp only at H)
 by_cases c1 : t1 = true
 rotate_left
 ·replace c1 := Bool.eq_false_iff.mpr c1
  subst c1
  rw [if_neg (show ¬ (false = true) by decide)] at H
  simp only [Option.some.injEq, Prod.mk.injEq] at H
  obtain ⟨rfl, rfl⟩ := H
  go_enter Try.func89, Try.ntmps89
  go_wp2_with (first | (refine xg 3 rfl ?_; refine xV 3 #[.int .i64 a0_0, .int .i64 a0_1, .int .i64 a0_2, .int .i64 a0_3, .bool a0_4] 62 ?_; intro gb1 hg w3 hbox hb; replace HB := xA (below_step (xB HB.out) hb); have BK0 := xA hbox; clear hb hbox hg) | (refine xg 4 rfl ?_; refine xV 4 #[.int .i64 a1] 3 ?_; intro gb2 hg w4 hbox hb; have BK1 := xA hbox; have HG1 := xA (show w.heap.size ≤ gb2 by rw [hg]; exact below_size (xB HB.out)); replace HB := xA (below_step (xB HB.out) hb); have HNE := xA (show gb1 ≠ gb2 by rw [hg]; exact Nat.ne_of_lt (blk_lt (by ((with_reducible repeat (first | refine blk_drewN ?_ _ | refine blk_drew ?_ | refine blk_alloc ?_ _)); exact BK0.out)))); replace BK0 := xA (blk_below (by ((with_reducible repeat (first | refine blk_drewN ?_ _ | refine blk_drew ?_ | refine blk_alloc ?_ _)); exact BK0.out)) hb); clear hb hbox hg; obtain ⟨hcz_0, hcz_1, hcz_2, hcz_3, hcz_4, hfz_0, hfz_1, hfz_2, hfz_3, hfz_4⟩ := xZ5 BK0.out; have hd_0 : w4.cell? ⟨gb2, 0, none⟩ = some (.int .i64 a1) := (blk_cell BK1.out 0).trans rfl; have he_0 := blk_frozen BK1.out 0) | (go_at_call 283; (with_reducible refine (impl_First_isAt.calls a0_0 a0_1 a0_2 a0_3 a0_4 a1 false _ A1.out).mono ?_); rintro e w7 ⟨rfl, hb⟩; replace HB := xA (below_step (xB HB.out) hb); replace BK0 := xA (blk_below (by ((with_reducible repeat (first | refine blk_drewN ?_ _ | refine blk_drew ?_ | refine blk_alloc ?_ _)); exact BK0.out)) hb); replace BK1 := xA (blk_below (by ((with_reducible repeat (first | refine blk_drewN ?_ _ | refine blk_drew ?_ | refine blk_alloc ?_ _)); exact BK1.out)) hb); clear hb; obtain ⟨hcy_0, hcy_1, hcy_2, hcy_3, hcy_4, hfy_0, hfy_1, hfy_2, hfy_3, hfy_4⟩ := xZ5 BK0.out))
  go_ret2
  exact ⟨_, xr, Kd.R_nil _ _ _ _ _, (xB HB.out)⟩
 subst c1
 rw [if_pos rfl] at H
 replace H := Option.bind_eq_some_iff.mp H
 obtain ⟨t2, A20, H⟩ := H
 (try dsimp only at H)
 have A2_ := xA A20
 clear A20
 by_cases c2_ : t2 = true
 rotate_left
 ·replace c2_ := Bool.eq_false_iff.mpr c2_
  subst c2_
  rw [if_neg (show ¬ (false = true) by decide)] at H
  simp only [Option.some.injEq, Prod.mk.injEq] at H
  obtain ⟨rfl, rfl⟩ := H
  go_enter Try.func89, Try.ntmps89
  go_wp2_with (first | (refine xg 3 rfl ?_; refine xV 3 #[.int .i64 a0_0, .int .i64 a0_1, .int .i64 a0_2, .int .i64 a0_3, .bool a0_4] 62 ?_; intro gb1 hg w3 hbox hb; replace HB := xA (below_step (xB HB.out) hb); have BK0 := xA hbox; clear hb hbox hg) | (refine xg 4 rfl ?_; refine xV 4 #[.int .i64 a1] 3 ?_; intro gb2 hg w4 hbox hb; have BK1 := xA hbox; have HG1 := xA (show w.heap.size ≤ gb2 by rw [hg]; exact below_size (xB HB.out)); replace HB := xA (below_step (xB HB.out) hb); have HNE := xA (show gb1 ≠ gb2 by rw [hg]; exact Nat.ne_of_lt (blk_lt (by ((with_reducible repeat (first | refine blk_drewN ?_ _ | refine blk_drew ?_ | refine blk_alloc ?_ _)); exact BK0.out)))); replace BK0 := xA (blk_below (by ((with_reducible repeat (first | refine blk_drewN ?_ _ | refine blk_drew ?_ | refine blk_alloc ?_ _)); exact BK0.out)) hb); clear hb hbox hg; obtain ⟨hcz_0, hcz_1, hcz_2, hcz_3, hcz_4, hfz_0, hfz_1, hfz_2, hfz_3, hfz_4⟩ := xZ5 BK0.out; have hd_0 : w4.cell? ⟨gb2, 0, none⟩ = some (.int .i64 a1) := (blk_cell BK1.out 0).trans rfl; have he_0 := blk_frozen BK1.out 0) | (go_at_call 283; (with_reducible refine (impl_First_isAt.calls a0_0 a0_1 a0_2 a0_3 a0_4 a1 true _ A1.out).mono ?_); rintro e w7 ⟨rfl, hb⟩; replace HB := xA (below_step (xB HB.out) hb); replace BK0 := xA (blk_below (by ((with_reducible repeat (first | refine blk_drewN ?_ _ | refine blk_drew ?_ | refine blk_alloc ?_ _)); exact BK0.out)) hb); replace BK1 := xA (blk_below (by ((with_reducible repeat (first | refine blk_drewN ?_ _ | refine blk_drew ?_ | refine blk_alloc ?_ _)); exact BK1.out)) hb); clear hb; obtain ⟨hcy_0, hcy_1, hcy_2, hcy_3, hcy_4, hfy_0, hfy_1, hfy_2, hfy_3, hfy_4⟩ := xZ5 BK0.out) | (go_at_call 233; (with_reducible refine (impl_isSignal.calls k _ _ l2 false _ ?side1 ?side2 A2_.out).mono ?_); (case side1 => exact xC (Kd.C_below HR2.out HB.out)); (case side2 => exact HC2.out); rintro e w' ⟨rfl, ⟨nd, rfl⟩⟩))
  go_ret2
  exact ⟨_, xr, Kd.R_nil _ _ _ _ _, (xB HB.out)⟩
 subst c2_
 rw [if_pos rfl] at H
 have A3 := xA H
 clear H
 go_enter Try.func89, Try.ntmps89
 go_wp2_with (first | (refine xg 3 rfl ?_; refine xV 3 #[.int .i64 a0_0, .int .i64 a0_1, .int .i64 a0_2, .int .i64 a0_3, .bool a0_4] 62 ?_; intro gb1 hg w3 hbox hb; replace HB := xA (below_step (xB HB.out) hb); have BK0 := xA hbox; clear hb hbox hg) | (refine xg 4 rfl ?_; refine xV 4 #[.int .i64 a1] 3 ?_; intro gb2 hg w4 hbox hb; have BK1 := xA hbox; have HG1 := xA (show w.heap.size ≤ gb2 by rw [hg]; exact below_size (xB HB.out)); replace HB := xA (below_step (xB HB.out) hb); have HNE := xA (show gb1 ≠ gb2 by rw [hg]; exact Nat.ne_of_lt (blk_lt (by ((with_reducible repeat (first | refine blk_drewN ?_ _ | refine blk_drew ?_ | refine blk_alloc ?_ _)); exact BK0.out)))); replace BK0 := xA (blk_below (by ((with_reducible repeat (first | refine blk_drewN ?_ _ | refine blk_drew ?_ | refine blk_alloc ?_ _)); exact BK0.out)) hb); clear hb hbox hg; obtain ⟨hcz_0, hcz_1, hcz_2, hcz_3, hcz_4, hfz_0, hfz_1, hfz_2, hfz_3, hfz_4⟩ := xZ5 BK0.out; have hd_0 : w4.cell? ⟨gb2, 0, none⟩ = some (.int .i64 a1) := (blk_cell BK1.out 0).trans rfl; have he_0 := blk_frozen BK1.out 0) | (go_at_call 283; (with_reducible refine (impl_First_isAt.calls a0_0 a0_1 a0_2 a0_3 a0_4 a1 true _ A1.out).mono ?_); rintro e w7 ⟨rfl, hb⟩; replace HB := xA (below_step (xB HB.out) hb); replace BK0 := xA (blk_below (by ((with_reducible repeat (first | refine blk_drewN ?_ _ | refine blk_drew ?_ | refine blk_alloc ?_ _)); exact BK0.out)) hb); replace BK1 := xA (blk_below (by ((with_reducible repeat (first | refine blk_drewN ?_ _ | refine blk_drew ?_ | refine blk_alloc ?_ _)); exact BK1.out)) hb); clear hb; obtain ⟨hcy_0, hcy_1, hcy_2, hcy_3, hcy_4, hfy_0, hfy_1, hfy_2, hfy_3, hfy_4⟩ := xZ5 BK0.out) | (go_at_call 233; (with_reducible refine (impl_isSignal.calls k _ _ l2 true _ ?side1 ?side2 A2_.out).mono ?_); (case side1 => exact xC (Kd.C_below HR2.out HB.out)); (case side2 => exact HC2.out); rintro e w' ⟨rfl, ⟨nd, rfl⟩⟩) | (go_at_call 287; (with_reducible refine (impl_ExactFirst_ex.calls k A2 c2 l2 a0_1 a0_0 a0_1 a0_2 a0_3 a0_4 a1 r1 r2 w _ gb1 gb2 ?sq0 ?sq1 HR2.out HC2.out ?sB HG1.out HNE.out A3.out).mono ?_); (case sq0 => ((with_reducible repeat (first | refine blk_drewN ?_ _ | refine blk_drew ?_ | refine blk_alloc ?_ _)); exact BK0.out)); (case sq1 => ((with_reducible repeat (first | refine blk_drewN ?_ _ | refine blk_drew ?_ | refine blk_alloc ?_ _)); exact BK1.out)); (case sB => exact (xB HB.out)); rintro e w9 ⟨v9, rfl, ho, hb⟩; have n0_ := xA (Kd.R_lower ho (below_size (xB HB.out))); clear HB ho; have HO := n0_; have HB := xA hb; clear n0_ hb))
 go_ret2
 exact ⟨_, xr, xR HO.out, (xB HB.out)⟩

/-! ### spec_wdNumber: function 342 -/
def spec_wdNumber.f (a0 : Int) : Option (Bool) := (spec_l1In.f a0 (-1000000000000) 1000000000000).bind fun t368 => (some t368)
set_option maxHeartbeats 200000000 in
set_option maxRecDepth 100000 in
theorem spec_wdNumber.calls (a0 : Int) (r : Bool) (w : World) (h : spec_wdNumber.f a0 = some r) :
  Calls Try.prog 342 #[.int .i64 a0] w fun e w' => e = .returned (.bool r) ∧ Drawn0 w w' := by
 have H : ((spec_l1In.f a0 (-1000000000000) 1000000000000).bind fun t368 => (some t368)) = some r := h
 clear h
 obtain ⟨t368, A2, H⟩ := xO H
 (try dsimp only at H)
 obtain rfl := Option.some.inj H
 go_enter Try.func342, Try.ntmps342
 go_wp2_with (first | (refine xG (some 4) Try.func230 #[.int .i64 a0, .int .i64 (-1000000000000), .int .i64 1000000000000] ?_; (with_reducible refine (spec_l1In.calls a0 (-1000000000000) 1000000000000 t368 _ A2.out).mono ?_); rintro e w' ⟨rfl, ⟨nd, rfl⟩⟩; refine ⟨_, rfl, ?_⟩))
 go_ret
 exact ⟨by first | rfl | (simp; done) | (simp [*]; done), by repeat (first | exact Drawn0.refl _ | apply Drawn0.step)⟩

/-! ### spec_foExact: function 290 -/
def spec_foExact.l0 : Nat → Int → List Int → Int → List Int → Int → Int → Int → Int → Int → Int → Bool → Option (List Int × Bool)
 | 0, _, _, _, _, _, _, _, _, _, _, _ => none
 | k + 1, x1, x8, x9, x12, x13, x14, x370000, x370001, x370002, x370003, x370004 => if x14 < x13 then (if 0 ≤ x14 then (if x14 < (x12.length : Int) then (if 0 ≤ x370001 then (if (shl .i64 x9 x370001) > 1000000000000 then (some (([] : List Int), false)) else ((spec_wdNumber.f (wrap64 ((wrap64 (x370000 * x1)) + (wrap64 ((rd x12 x14) * (shl .i64 x9 x370001)))))).bind fun t371 => (if t371 = true then (if x8.length < 17592186044416 then (spec_foExact.l0 k (wrap64 ((wrap64 (x370000 * x1)) + (wrap64 ((rd x12 x14) * (shl .i64 x9 x370001))))) (x8 ++ [wrap64 ((wrap64 (x370000 * x1)) + (wrap64 ((rd x12 x14) * (shl .i64 x9 x370001))))]) (shl .i64 x9 x370001) x12 x13 (wrap64 (x14 + 1)) x370000 x370001 x370002 x370003 x370004) else (none)) else (some (([] : List Int), false))))) else (none)) else (none)) else (none)) else (some (x8, true))
def spec_foExact.f (k : Nat) (a0_0 : Int) (a0_1 : Int) (a0_2 : Int) (a0_3 : Int) (a0_4 : Bool) (a1 : Int) (l2 : List Int) : Option (List Int × Bool) := spec_foExact.l0 k a1 ([] : List Int) 1 l2 (l2.length : Int) 0 a0_0 a0_1 a0_2 a0_3 a0_4
theorem spec_foExact.mono_l : ∀ k, (∀ y0 y1 y2 y3 y4 y5 y6 y7 y8 y9 y10, LeO (spec_foExact.l0 k y0 y1 y2 y3 y4 y5 y6 y7 y8 y9 y10) (spec_foExact.l0 (k + 1) y0 y1 y2 y3 y4 y5 y6 y7 y8 y9 y10))
 | 0 => fun _ _ _ _ _ _ _ _ _ _ _ r h => by simp [spec_foExact.l0] at h
 | k + 1 => by
  have ih0 := spec_foExact.mono_l k
  intros
  unfold spec_foExact.l0
  exact xM
theorem spec_foExact.mono : ∀ a0 a1 a2 a3 a4 a5 a6 k, LeO (spec_foExact.f k a0 a1 a2 a3 a4 a5 a6) (spec_foExact.f (k + 1) a0 a1 a2 a3 a4 a5 a6) := by
 intro a0 a1 a2 a3 a4 a5 a6 k
 have ih0 := spec_foExact.mono_l k
 unfold spec_foExact.f
 exact xM
set_option maxHeartbeats 200000000 in
set_option maxRecDepth 100000 in
theorem spec_foExact.calls (k : Nat) (a0_0 : Int) (a0_1 : Int) (a0_2 : Int) (a0_3 : Int) (a0_4 : Bool) (a1 : Int) (A2 : Option Addr) (c2 : Nat) (l2 : List Int) (r1 : List Int) (r2 : Bool) (w : World) (hr2 : Kd.C (Kd.int .i64) w A2 l2.length l2) (hc2 : l2.length ≤ c2) (h : spec_foExact.f k a0_0 a0_1 a0_2 a0_3 a0_4 a1 l2 = some (r1, r2)) :
  Calls Try.prog 290 #[.agg #[.int .i64 a0_0, .int .i64 a0_1, .int .i64 a0_2, .int .i64 a0_3, .bool a0_4], .int .i64 a1, .slice A2 l2.length c2] w fun e w' => ∃ v0_ : Value, e = .returned (.tuple #[v0_, .bool r2]) ∧ Kd.R (Kd.int .i64) 3 w' w.heap.size (fun _ => True) v0_ r1 ∧ Below w.heap.size w w' := by
 have hu62 := Try.underlying62
 have HR2 := xA hr2
 have HC2 := xA hc2
 clear hr2 hc2
 have HB := xA (Below.refl w.heap.size w)
 have H : (spec_foExact.l0 k a1 ([] : List Int) 1 l2 (l2.length : Int) 0 a0_0 a0_1 a0_2 a0_3 a0_4) = some (r1, r2) := h
 clear h
 have H' := xA H
 clear H
 go_enter Try.func290, Try.ntmps290
 go_wp2_with (first | (refine xg 3 rfl ?_; refine xV 3 #[.int .i64 a0_0, .int .i64 a0_1, .int .i64 a0_2, .int .i64 a0_3, .bool a0_4] 62 ?_; intro gb369 hg w4 hbox hb; have BK369 := xA (hbox); have GW369 := xgw hg (below_size (xB HB.out)); have GE369 := GW369; replace HB := xA (below_step (xB HB.out) hb); clear hb hbox hg))
 go_loopg [1, 8, 9, 14] k (fun kq v1 v8 v9 v14 w' => ∃ (x1_1 : Int) (x8_1 : List Int) (x9_1 : Int) (x14_1 : Int), v1 = .int .i64 x1_1 ∧ v9 = .int .i64 x9_1 ∧ v14 = .int .i64 x14_1 ∧ Aside0 (spec_foExact.l0 kq x1_1 x8_1 x9_1 l2 (l2.length : Int) x14_1 a0_0 a0_1 a0_2 a0_3 a0_4 = some (r1, r2)) ∧ Aside0 (kq ≤ k) ∧ Aside0 (Kd.R (Kd.int .i64) 3 w' w.heap.size (fun _ => True) v8 x8_1) ∧ Aside0 (w'.heap[gb369]? = some (.cells #[.int .i64 a0_0, .int .i64 a0_1, .int .i64 a0_2, .int .i64 a0_3, .bool a0_4] 62 (0, 0))) ∧ Aside0 (Below w.heap.size w w'))
 case atStart => exact ⟨(a1), (([] : List Int)), (1), (0), xs, xs, xs, H', ⟨Nat.le_refl _⟩, ⟨by first | exact Kd.R_nil _ _ _ _ _ | exact Kd.N_nil _ _ _ _ _ | exact Kd.V_nil _ _ _ _ _ | exact Kd.Q_nil _ _ _ _ _ | exact Kd.S_nil _ _ _ _ _⟩, ⟨xK BK369.out⟩, ⟨xB1 GE369.out HB.out⟩⟩
 case round =>
  clear H'
  try clear c2
  obtain ⟨x1_1, x8_1, x9_1, x14_1, rfl, rfl, rfl, HA, HK1, HO_8, BK369, HB⟩ := hrel
  cases gk with
  | zero => exact absurd HA.out (by simp [spec_foExact.l0])
  | succ k1 =>
   have H := HA.out
   clear HA
   simp only [spec_foExact.l0] at H
   by_cases c5 : x14_1 < (l2.length : Int)
   rotate_left
   ·rw [if_neg c5] at H
    have c5b0 : decide (x14_1 < (l2.length : Int)) = false := decide_eq_false c5
    clear c5
    simp only [Option.some.injEq, Prod.mk.injEq] at H
    obtain ⟨rfl, rfl⟩ := H
    go_wp2
    go_ret2
    exact ⟨_, xr, xR HO_8.out, xB1 GE369.out HB.out⟩

   rw [if_pos c5] at H
   have c5b0 : decide (x14_1 < (l2.length : Int)) = true := decide_eq_true c5
   clear c5
   by_cases c6 : 0 ≤ x14_1
   rotate_left
   ·rw [if_neg c6] at H
    exact absurd H (by simp)
   rw [if_pos c6] at H
   have c6b0 : decide (0 ≤ x14_1) = true := decide_eq_true c6
   clear c6
   by_cases c7 : x14_1 < (l2.length : Int)
   rotate_left
   ·rw [if_neg c7] at H
    exact absurd H (by simp)
   rw [if_pos c7] at H
   have c7b0 : decide (x14_1 < (l2.length : Int)) = true := decide_eq_true c7
   clear c7
   by_cases c8 : 0 ≤ a0_1
   rotate_left
   ·rw [if_neg c8] at H
    exact absurd H (by simp)
   rw [if_pos c8] at H
   have c8b0 := eq_true c8
   have c8b1 : decide (0 ≤ a0_1) = true := decide_eq_true c8
   clear c8
   obtain ⟨ji9, hji9⟩ : ∃ j_ : Int, (shl .i64 x9_1 a0_1) = j_ := ⟨_, rfl⟩
   (first | rw [hji9] at H | simp only [hji9] at H)
   obtain ⟨hji9_, hji9z, hji9y, hji9x⟩ := xSh hji9
   by_cases c10 : (ji9) > 1000000000000
   ·rw [if_pos c10] at H
    have c10b0 : decide (1000000000000 < (ji9)) = true := decide_eq_true c10
    clear c10
    simp only [Option.some.injEq, Prod.mk.injEq] at H
    obtain ⟨rfl, rfl⟩ := H
    have p370 : 0 ≤ (x14_1 : Int) := of_decide_eq_true (by first | (with_reducible assumption) | assumption)
    have q370 : x14_1 < (l2.length : Int) := of_decide_eq_true (by first | (with_reducible assumption) | assumption)
    obtain ⟨ad370, e370, hx370_0⟩ := Kd.at_int HR2.out x14_1 p370 q370
    cases e370
    replace hx370_0 := (HB.out.cell (World.block_lt_of_cell? w _ hx370_0)).trans hx370_0
    replace p370 := eq_true p370
    replace q370 := eq_true q370
    replace hz369 := blk_cell BK369.out; replace hy369 := blk_frozen BK369.out
    go_wp2
    go_ret2
    exact ⟨_, by first | rfl | (simp [errW_none, errW_some] <;> rfl) | (simp only [← hji9]; first | rfl | (simp [errW_none, errW_some] <;> rfl)) | (simp [*, errW_none, errW_some] <;> rfl), by first | exact Kd.R_nil _ _ _ _ _ | exact Kd.N_nil _ _ _ _ _ | exact Kd.V_nil _ _ _ _ _ | exact Kd.Q_nil _ _ _ _ _ | exact Kd.S_nil _ _ _ _ _, xB1 GE369.out HB.out⟩
   rw [if_neg c10] at H
   have c10b0 : decide (1000000000000 < (ji9)) = false := decide_eq_false c10
   clear c10
   obtain ⟨t371, A12, H⟩ := xO H
   (try dsimp only at H)
   by_cases c13 : t371 = true
   rotate_left
   ·replace c13 := Bool.eq_false_iff.mpr c13
    subst c13
    rw [if_neg (show ¬ (false = true) by decide)] at H
    simp only [Option.some.injEq, Prod.mk.injEq] at H
    obtain ⟨rfl, rfl⟩ := H
    have p370 : 0 ≤ (x14_1 : Int) := of_decide_eq_true (by first | (with_reducible assumption) | assumption)
    have q370 : x14_1 < (l2.length : Int) := of_decide_eq_true (by first | (with_reducible assumption) | assumption)
    obtain ⟨ad370, e370, hx370_0⟩ := Kd.at_int HR2.out x14_1 p370 q370
    cases e370
    replace hx370_0 := (HB.out.cell (World.block_lt_of_cell? w _ hx370_0)).trans hx370_0
    replace p370 := eq_true p370
    replace q370 := eq_true q370
    replace hz369 := blk_cell BK369.out; replace hy369 := blk_frozen BK369.out
    go_wp2_with (first | ((with_reducible refine gate_callee (f := 342) rfl ?_); refine goesL_ (some 33) rfl rfl Try.func342 (by kernel_rfl) rfl #[.int .i64 (wrap64 ((wrap64 (a0_0 * x1_1)) + (wrap64 ((rd l2 x14_1) * (ji9)))))] rfl (by (try simp only [List.map_toArray, List.map_cons, List.map_nil]); first | done | (simp only [hji9]; rfl) | rfl | (simp only [List.length_drop, List.length_take]; rfl)) ?_; (with_reducible refine (spec_wdNumber.calls (wrap64 ((wrap64 (a0_0 * x1_1)) + (wrap64 ((rd l2 x14_1) * (ji9))))) false _ A12.out).mono ?_); rintro e w' ⟨rfl, ⟨nd, rfl⟩⟩; refine ⟨_, rfl, ?_⟩))
    go_ret2
    exact ⟨_, by first | rfl | (simp [errW_none, errW_some] <;> rfl) | (simp only [← hji9]; first | rfl | (simp [errW_none, errW_some] <;> rfl)) | (simp [*, errW_none, errW_some] <;> rfl), by first | exact Kd.R_nil _ _ _ _ _ | exact Kd.N_nil _ _ _ _ _ | exact Kd.V_nil _ _ _ _ _ | exact Kd.Q_nil _ _ _ _ _ | exact Kd.S_nil _ _ _ _ _, xB1 GE369.out HB.out⟩
   subst c13
   rw [if_pos rfl] at H
   by_cases c14 : x8_1.length < 17592186044416
   rotate_left
   ·rw [if_neg c14] at H
    exact absurd H (by simp)
   rw [if_pos c14] at H
   have LMc14 := xA c14
   clear c14
   obtain ⟨y372, hy372⟩ : ∃ y_ : List Int, y_ = (x8_1 ++ [wrap64 ((wrap64 (a0_0 * x1_1)) + (wrap64 ((rd l2 x14_1) * (ji9))))]) := ⟨_, rfl⟩
   replace H : (spec_foExact.l0 k1 (wrap64 ((wrap64 (a0_0 * x1_1)) + (wrap64 ((rd l2 x14_1) * (ji9))))) y372 ji9 l2 (l2.length : Int) (wrap64 (x14_1 + 1)) a0_0 a0_1 a0_2 a0_3 a0_4) = some (r1, r2) := by first | (rw [hy372]; with_reducible exact H) | (have H2_ := (Option.bind_some _ _).symm.trans H; rw [hy372]; with_reducible exact H2_) | (have H2_ := (Option.bind_some _ _).symm.trans H; with_reducible exact H2_) | with_reducible exact H | (rw [hy372]; exact H) | exact H
   have Ny372 := xA hy372
   clear hy372
   have H' := xA H
   clear H
   have p370 : 0 ≤ (x14_1 : Int) := of_decide_eq_true (by first | (with_reducible assumption) | assumption)
   have q370 : x14_1 < (l2.length : Int) := of_decide_eq_true (by first | (with_reducible assumption) | assumption)
   obtain ⟨ad370, e370, hx370_0⟩ := Kd.at_int HR2.out x14_1 p370 q370
   cases e370
   replace hx370_0 := (HB.out.cell (World.block_lt_of_cell? w _ hx370_0)).trans hx370_0
   replace p370 := eq_true p370
   replace q370 := eq_true q370
   obtain ⟨hcz15_0, hcz15_1, hcz15_2, hcz15_3, hcz15_4, hfz15_0, hfz15_1, hfz15_2, hfz15_3, hfz15_4⟩ := xZ5 BK369.out
   go_wp2_with (first | ((with_reducible refine gate_callee (f := 342) rfl ?_); refine goesL_ (some 33) rfl rfl Try.func342 (by kernel_rfl) rfl #[.int .i64 (wrap64 ((wrap64 (a0_0 * x1_1)) + (wrap64 ((rd l2 x14_1) * (ji9)))))] rfl (by (try simp only [List.map_toArray, List.map_cons, List.map_nil]); first | done | (simp only [hji9]; rfl) | rfl | (simp only [List.length_drop, List.length_take]; rfl)) ?_; (with_reducible refine (spec_wdNumber.calls (wrap64 ((wrap64 (a0_0 * x1_1)) + (wrap64 ((rd l2 x14_1) * (ji9))))) true _ A12.out).mono ?_); rintro e w' ⟨rfl, ⟨nd, rfl⟩⟩; refine ⟨_, rfl, ?_⟩) | ((with_reducible refine gate_builtin (b := .append) (xs := #[.tmp 35, .tmp 37]) rfl ?_); at_builtin; refine Kd.R_append (Kd.int .i64) (w0 := w) w.heap.size rfl (.tmp 35) (.tmp 37) 24 3 (.int .i64 0) 8 rfl Try.underlying24 info3 rfl (by decide) (by omega) u8 x8_1 (wrap64 ((wrap64 (a0_0 * x1_1)) + (wrap64 ((rd l2 x14_1) * (ji9))))) [.int .i64 (wrap64 ((wrap64 (a0_0 * x1_1)) + (wrap64 ((rd l2 x14_1) * (ji9)))))] (fun _ => True) (fun _ => False) rfl rfl ?aP (fun _ hk => hk.elim) ?aF ?aO ?aB ?aS ?aL ?_; (case aP => exact rfl); (case aB => exact (xB1 GE369.out HB.out)); (case aF => exact (fun _ _ => trivial)); (case aO => exact (xR HO_8.out)); (case aS => exact (below_size (xB1 GE369.out HB.out))); (case aL => have := LMc14.out; omega); intro v373 w16 ho hb hg hat; rw [← Ny372.out] at ho; replace BK369 := xA (blk_grown (xK BK369.out) hg (Kd.R_ne HO_8.out BK369.out (by decide))); replace HB := xA (hb); have HO374 := xA (ho); clear HO_8; clear ho hb hg hat))
   go_roundg k1
   case measure => have := HK1.out; omega
   case rel => exact ⟨(wrap64 ((wrap64 (a0_0 * x1_1)) + (wrap64 ((rd l2 x14_1) * (ji9))))), (y372), (ji9), (wrap64 (x14_1 + 1)), (by first | rfl | (simp; done) | (simp only [← hji9] <;> (first | rfl | simp)) | (simp [*]; done)), (by first | rfl | (simp; done) | (simp only [← hji9] <;> (first | rfl | simp)) | (simp [*]; done)), xs, H', ⟨by have := HK1.out; omega⟩, ⟨xR HO374.out⟩, ⟨xK BK369.out⟩, ⟨xB1 GE369.out HB.out⟩⟩
/-! ### spec_ExactFirst: function 90 -/
def spec_ExactFirst.f (k : Nat) (a0_0 : Int) (a0_1 : Int) (a0_2 : Int) (a0_3 : Int) (a0_4 : Bool) (a1 : Int) (l2 : List Int) : Option (List Int × Bool) := (spec_foAsked.f a0_0 a0_1 a0_2 a0_3 a0_4 a1 0).bind fun t376 => (if t376 = true then ((spec_wdSignal.f k l2).bind fun t377 => (if t377 = true then ((spec_foExact.f k a0_0 a0_1 a0_2 a0_3 a0_4 a1 l2).bind fun bt378 => (some (bt378.1, bt378.2))) else (some (([] : List Int), false)))) else (some (([] : List Int), false)))
theorem spec_ExactFirst.mono : ∀ a0 a1 a2 a3 a4 a5 a6 k, LeO (spec_ExactFirst.f k a0 a1 a2 a3 a4 a5 a6) (spec_ExactFirst.f (k + 1) a0 a1 a2 a3 a4 a5 a6) := by
 intro a0 a1 a2 a3 a4 a5 a6 k
 have m0 := @spec_foExact.mono
 have m1 := @spec_wdSignal.mono
 unfold spec_ExactFirst.f
 exact xM
set_option maxHeartbeats 200000000 in
set_option maxRecDepth 100000 in
theorem spec_ExactFirst.calls (k : Nat) (a0_0 : Int) (a0_1 : Int) (a0_2 : Int) (a0_3 : Int) (a0_4 : Bool) (a1 : Int) (A2 : Option Addr) (c2 : Nat) (l2 : List Int) (r1 : List Int) (r2 : Bool) (w : World) (hr2 : Kd.C (Kd.int .i64) w A2 l2.length l2) (hc2 : l2.length ≤ c2) (h : spec_ExactFirst.f k a0_0 a0_1 a0_2 a0_3 a0_4 a1 l2 = some (r1, r2)) :
  Calls Try.prog 90 #[.agg #[.int .i64 a0_0, .int .i64 a0_1, .int .i64 a0_2, .int .i64 a0_3, .bool a0_4], .int .i64 a1, .slice A2 l2.length c2] w fun e w' => ∃ v0_ : Value, e = .returned (.tuple #[v0_, .bool r2]) ∧ Kd.R (Kd.int .i64) 3 w' w.heap.size (fun _ => True) v0_ r1 ∧ Below w.heap.size w w' := by
 have hu62 := Try.underlying62
 have HR2 := xA hr2
 have HC2 := xA hc2
 clear hr2 hc2
 have HB := xA (Below.refl w.heap.size w)
 have H : ((spec_foAsked.f a0_0 a0_1 a0_2 a0_3 a0_4 a1 0).bind fun t376 => (if t376 = true then ((spec_wdSignal.f k l2).bind fun t377 => (if t377 = true then ((spec_foExact.f k a0_0 a0_1 a0_2 a0_3 a0_4 a1 l2).bind fun bt378 => (some (bt378.1, bt378.2))) else (some (([] : List Int), false)))) else (some (([] : List Int), false)))) = some (r1, r2) := h
 clear h
 obtain ⟨t376, A4, H⟩ := xO H
 (try dsimp only at H)
 by_cases c5 : t376 = true
 rotate_left
 ·replace c5 := Bool.eq_false_iff.mpr c5
  subst c5
  rw [if_neg (show ¬ (false = true) by decide)] at H
  simp only [Option.some.injEq, Prod.mk.injEq] at H
  obtain ⟨rfl, rfl⟩ := H
  go_enter Try.func90, Try.ntmps90
  go_wp2_with (first | (refine xg 3 rfl ?_; refine xV 3 #[.int .i64 a0_0, .int .i64 a0_1, .int .i64 a0_2, .int .i64 a0_3, .bool a0_4] 62 ?_; intro gb375 hg w17 hbox hb; have BK375 := xA (hbox); have GW375 := xgw hg (below_size (xB HB.out)); have GE375 := GW375; replace HB := xA (below_step (xB HB.out) hb); clear hb hbox hg; replace hz375 := blk_cell BK375.out; replace hy375 := blk_frozen BK375.out) | (refine xG (some 10) Try.func285 #[.agg #[.int .i64 a0_0, .int .i64 a0_1, .int .i64 a0_2, .int .i64 a0_3, .bool a0_4], .int .i64 a1, .int .i64 0] ?_; (with_reducible refine (spec_foAsked.calls a0_0 a0_1 a0_2 a0_3 a0_4 a1 0 false _ A4.out).mono ?_); rintro e w19 ⟨rfl, hb⟩; refine ⟨_, rfl, ?_⟩; replace BK375 := xkb BK375 hb; replace HB := xA (below_step (xB1 GE375.out HB.out) hb); (try clear hb)))
  go_ret2
  exact ⟨_, xr, by first | exact Kd.R_nil _ _ _ _ _ | exact Kd.N_nil _ _ _ _ _ | exact Kd.V_nil _ _ _ _ _ | exact Kd.Q_nil _ _ _ _ _ | exact Kd.S_nil _ _ _ _ _, xB1 GE375.out HB.out⟩

 subst c5
 rw [if_pos rfl] at H
 obtain ⟨t377, A6, H⟩ := xO H
 (try dsimp only at H)
 by_cases c7 : t377 = true
 rotate_left
 ·replace c7 := Bool.eq_false_iff.mpr c7
  subst c7
  rw [if_neg (show ¬ (false = true) by decide)] at H
  simp only [Option.some.injEq, Prod.mk.injEq] at H
  obtain ⟨rfl, rfl⟩ := H
  go_enter Try.func90, Try.ntmps90
  go_wp2_with (first | (refine xg 3 rfl ?_; refine xV 3 #[.int .i64 a0_0, .int .i64 a0_1, .int .i64 a0_2, .int .i64 a0_3, .bool a0_4] 62 ?_; intro gb375 hg w14 hbox hb; have BK375 := xA (hbox); have GW375 := xgw hg (below_size (xB HB.out)); have GE375 := GW375; replace HB := xA (below_step (xB HB.out) hb); clear hb hbox hg; obtain ⟨hcz15_0, hcz15_1, hcz15_2, hcz15_3, hcz15_4, hfz15_0, hfz15_1, hfz15_2, hfz15_3, hfz15_4⟩ := xZ5 BK375.out) | (refine xG (some 10) Try.func285 #[.agg #[.int .i64 a0_0, .int .i64 a0_1, .int .i64 a0_2, .int .i64 a0_3, .bool a0_4], .int .i64 a1, .int .i64 0] ?_; (with_reducible refine (spec_foAsked.calls a0_0 a0_1 a0_2 a0_3 a0_4 a1 0 true _ A4.out).mono ?_); rintro e w16 ⟨rfl, hb⟩; refine ⟨_, rfl, ?_⟩; replace BK375 := xkb BK375 hb; replace HB := xA (below_step (xB1 GE375.out HB.out) hb); (try clear hb)) | (go_at_call 236; (with_reducible refine (spec_wdSignal.calls k _ _ l2 false _ ?side1 ?side2 A6.out).mono ?_); (case side1 => exact xC (Kd.C_below HR2.out HB.out)); (case side2 => exact HC2.out); rintro e w' ⟨rfl, ⟨nd, rfl⟩⟩))
  go_ret2
  exact ⟨_, xr, by first | exact Kd.R_nil _ _ _ _ _ | exact Kd.N_nil _ _ _ _ _ | exact Kd.V_nil _ _ _ _ _ | exact Kd.Q_nil _ _ _ _ _ | exact Kd.S_nil _ _ _ _ _, xB1 GE375.out HB.out⟩
 subst c7
 rw [if_pos rfl] at H
 replace H := Option.bind_eq_some_iff.mp H
 obtain ⟨⟨t378, t381⟩, A80, H⟩ := H
 (try dsimp only at H)
 have A8 := xA A80
 clear A80
 simp only [Option.some.injEq, Prod.mk.injEq] at H
 obtain ⟨rfl, rfl⟩ := H
 go_enter Try.func90, Try.ntmps90
 go_wp2_with (first | (refine xq rfl ?_; first | (refine xG (some 10) Try.func285 #[.agg #[.int .i64 a0_0, .int .i64 a0_1, .int .i64 a0_2, .int .i64 a0_3, .bool a0_4], .int .i64 a1, .int .i64 0] ?_; (with_reducible refine (spec_foAsked.calls a0_0 a0_1 a0_2 a0_3 a0_4 a1 0 true _ A4.out).mono ?_); rintro e w11 ⟨rfl, hb⟩; refine ⟨_, rfl, ?_⟩; replace BK375 := xkb BK375 hb; replace HB := xA (below_step (xB1 GE375.out HB.out) hb); (try clear hb)) | (refine xG (some 20) Try.func290 #[.agg #[.int .i64 a0_0, .int .i64 a0_1, .int .i64 a0_2, .int .i64 a0_3, .bool a0_4], .int .i64 a1, .slice A2 l2.length c2] ?_; (with_reducible refine (spec_foExact.calls k a0_0 a0_1 a0_2 a0_3 a0_4 a1 _ _ l2 t378 t381 _ ?side1 ?side2 A8.out).mono ?_); (case side1 => repeat (first | exact (Kd.C_below HR2.out (xB1 GE375.out HB.out)) | (with_reducible refine Kd.C_alloc ?_ _) | (with_reducible refine Kd.C_drewN ?_ _) | (with_reducible refine Kd.C_drew ?_))); (case side2 => exact HC2.out); rintro e w13 ⟨v379, rfl, ho0, hb⟩; refine ⟨_, rfl, ?_⟩; have HO380 := xA (Kd.R_lower ho0 (below_size (xB1 GE375.out HB.out))); replace BK375 := xkb BK375 hb; replace HB := xA (below_step (xB1 GE375.out HB.out) hb); (try clear hb); (try clear ho0))) | (refine xg 3 rfl ?_; refine xV 3 #[.int .i64 a0_0, .int .i64 a0_1, .int .i64 a0_2, .int .i64 a0_3, .bool a0_4] 62 ?_; intro gb375 hg w9 hbox hb; have BK375 := xA (hbox); have GW375 := xgw hg (below_size (xB HB.out)); have GE375 := GW375; replace HB := xA (below_step (xB HB.out) hb); clear hb hbox hg; replace hz375 := blk_cell BK375.out; replace hy375 := blk_frozen BK375.out) | (go_at_call 236; (with_reducible refine (spec_wdSignal.calls k _ _ l2 true _ ?side1 ?side2 A6.out).mono ?_); (case side1 => exact xC (Kd.C_below HR2.out HB.out)); (case side2 => exact HC2.out); rintro e w' ⟨rfl, ⟨nd, rfl⟩⟩; replace hz375 := blk_cell BK375.out; replace hy375 := blk_frozen BK375.out))
 go_ret2
 exact ⟨_, xr, xR HO380.out, xB1 GE375.out HB.out⟩
end Go.Proofs.Ytjplcongellcmaa.PFnFirstRuns
