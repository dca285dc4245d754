/- What each Go function that the statement FnCombsWrap reaches answers, proved call by call. No condition beyond those that the theorems print. (Written by wip/tools/xprint.py of this repo, over the kit's print.) -/
import Derived.Test.YtjplcongellcmaaPFnCombsWrapx0
import Derived.Test.YtjplcongellcmaaPFnCombsWrapx2
import Derived.Test.YtjplcongellcmaaPFnCombsWrapx3
import Derived.Test.YtjplcongellcmaaPFnCombsWrapx4
import Derived.Laws.CopyOwn
import Derived.Deep.RegionLaw
namespace Go.Proofs.Ytjplcongellcmaa.PFnCombsWrap
open Go.RowKit Go.Proofs.YtjplcongellcmaaW.PrintWords Go.Proofs.YtjplcongellcmaaW.PrintLast Go.Proofs.YtjplcongellcmaaW.PrintMore
attribute [local go_sem] max2_int min2_int max_two min_two max_three min_three max_four min_four   -- for this text's walks alone
set_option linter.unusedVariables false
set_option linter.unusedSimpArgs false

/-! ### impl_answer: function 258 -/
mutual
def impl_answer.l0 : Nat → List Int → List Int → List Int → Int → Int → Option (List Int)
 | 0, _, _, _, _, _ => none
 | k + 1, x1, x5, x21, x22, x23 => if x23 < x22 then (if 0 ≤ x23 then (if x23 < (x21.length : Int) then (impl_answer.l1 k x1 x5 x23 (rd x21 x23) x21 x22 x23 x1 (x1.length : Int) 0) else (none)) else (none)) else (some x5)
def impl_answer.l1 : Nat → List Int → List Int → Int → Int → List Int → Int → Int → List Int → Int → Int → Option (List Int)
 | 0, _, _, _, _, _, _, _, _, _, _ => none
 | k + 1, x1, x5, x6, x7, x21, x22, x23, x28, x29, x30 => if x30 < x29 then (if 0 ≤ x30 then (if x30 < (x28.length : Int) then (if 0 ≤ (wrap64 (x30 + x6)) then (if (wrap64 (x30 + x6)) < (x5.length : Int) then (impl_answer.l1 k x1 (x5.set ((wrap64 (x30 + x6)) : Int).toNat (wrap64 ((rd x5 (wrap64 (x30 + x6))) + (wrap64 (x7 * (rd x28 x30)))))) x6 x7 x21 x22 x23 x28 x29 (wrap64 (x30 + 1))) else (none)) else (none)) else (none)) else (none)) else (impl_answer.l0 k x1 x5 x21 x22 (wrap64 (x23 + 1)))
end
def impl_answer.f (k : Nat) (l0 : List Int) (l1 : List Int) : Option (List Int) := if (l1.length : Int) = 0 then (some (([] : List Int))) else (if 0 ≤ (wrap64 ((wrap64 ((l0.length : Int) + (l1.length : Int))) - 1)) then (if (wrap64 ((wrap64 ((l0.length : Int) + (l1.length : Int))) - 1) : Int).toNat ≤ 35184372088832 then (impl_answer.l0 k l1 (List.replicate (wrap64 ((wrap64 ((l0.length : Int) + (l1.length : Int))) - 1) : Int).toNat 0) l0 (l0.length : Int) 0) else (none)) else (none))
theorem impl_answer.mono_l : ∀ k, (∀ y0 y1 y2 y3 y4, LeO (impl_answer.l0 k y0 y1 y2 y3 y4) (impl_answer.l0 (k + 1) y0 y1 y2 y3 y4)) ∧ (∀ y0 y1 y2 y3 y4 y5 y6 y7 y8 y9, LeO (impl_answer.l1 k y0 y1 y2 y3 y4 y5 y6 y7 y8 y9) (impl_answer.l1 (k + 1) y0 y1 y2 y3 y4 y5 y6 y7 y8 y9))
 | 0 => ⟨fun _ _ _ _ _ r h => by simp [impl_answer.l0] at h, fun _ _ _ _ _ _ _ _ _ _ r h => by simp [impl_answer.l1] at h⟩
 | k + 1 => by
  obtain ⟨ih0, ih1⟩ := impl_answer.mono_l k
  refine ⟨?_, ?_⟩
  ·intro y0 y1 y2 y3 y4
   unfold impl_answer.l0
   repeat' first
   | (with_reducible exact ih0 _ _ _ _ _)
   | (with_reducible exact ih1 _ _ _ _ _ _ _ _ _ _)
   | (with_reducible exact LeO.refl _)
   | (with_reducible exact LeO.none _)
   | (with_reducible refine LeO.ite ?_ ?_)
   | (with_reducible refine LeO.bind ?_ (fun _ => ?_))
   | exact ih0 _ _ _ _ _
   | exact ih1 _ _ _ _ _ _ _ _ _ _
   | exact LeO.none _
   | refine LeO.ite ?_ ?_
   | refine LeO.bind ?_ (fun _ => ?_)
  ·intro y0 y1 y2 y3 y4 y5 y6 y7 y8 y9
   unfold impl_answer.l1
   repeat' first
   | (with_reducible exact ih0 _ _ _ _ _)
   | (with_reducible exact ih1 _ _ _ _ _ _ _ _ _ _)
   | (with_reducible exact LeO.refl _)
   | (with_reducible exact LeO.none _)
   | (with_reducible refine LeO.ite ?_ ?_)
   | (with_reducible refine LeO.bind ?_ (fun _ => ?_))
   | exact ih0 _ _ _ _ _
   | exact ih1 _ _ _ _ _ _ _ _ _ _
   | exact LeO.none _
   | refine LeO.ite ?_ ?_
   | refine LeO.bind ?_ (fun _ => ?_)
theorem impl_answer.mono : ∀ a0 a1 k, LeO (impl_answer.f k a0 a1) (impl_answer.f (k + 1) a0 a1) := by
 intro a0 a1 k
 obtain ⟨ih0, ih1⟩ := impl_answer.mono_l k
 unfold impl_answer.f
 repeat' first
   | (with_reducible exact ih0 _ _ _ _ _)
   | (with_reducible exact ih1 _ _ _ _ _ _ _ _ _ _)
   | (with_reducible exact LeO.refl _)
   | (with_reducible exact LeO.none _)
   | (with_reducible refine LeO.ite ?_ ?_)
   | (with_reducible refine LeO.bind ?_ (fun _ => ?_))
   | exact ih0 _ _ _ _ _
   | exact ih1 _ _ _ _ _ _ _ _ _ _
   | exact LeO.none _
   | refine LeO.ite ?_ ?_
   | refine LeO.bind ?_ (fun _ => ?_)
set_option maxHeartbeats 8000000 in
set_option maxRecDepth 100000 in
theorem impl_answer.calls (k : Nat) (A0 : Option Addr) (c0 : Nat) (l0 : List Int) (A1 : Option Addr) (c1 : Nat) (l1 : List Int) (r : List Int) (w : World) (hr0 : Kd.C (Kd.int .i64) w A0 l0.length l0) (hc0 : l0.length ≤ c0) (hr1 : Kd.C (Kd.int .i64) w A1 l1.length l1) (hc1 : l1.length ≤ c1) (h : impl_answer.f k l0 l1 = some r) :
  Calls Try.prog 258 #[.slice A0 l0.length c0, .slice A1 l1.length c1] w fun e w' => ∃ v0_ : Value, e = .returned (v0_) ∧ Kd.R (Kd.int .i64) 3 w' w.heap.size (fun _ => True) v0_ r ∧ Below w.heap.size w w' := by
 have HR0 := Aside0.mk hr0
 have HC0 := Aside0.mk hc0
 clear hr0 hc0
 have HR1 := Aside0.mk hr1
 have HC1 := Aside0.mk hc1
 clear hr1 hc1
 have HB := Aside0.mk (Below.refl w.heap.size w)
 have H : (if (l1.length : Int) = 0 then (some (([] : List Int))) else (if 0 ≤ (wrap64 ((wrap64 ((l0.length : Int) + (l1.length : Int))) - 1)) then (if (wrap64 ((wrap64 ((l0.length : Int) + (l1.length : Int))) - 1) : Int).toNat ≤ 35184372088832 then (impl_answer.l0 k l1 (List.replicate (wrap64 ((wrap64 ((l0.length : Int) + (l1.length : Int))) - 1) : Int).toNat 0) l0 (l0.length : Int) 0) else (none)) else (none))) = some r := h
 clear h
 by_cases c3 : (l1.length : Int) = 0
 ·rw [if_pos c3] at H
  have c3b0 : ((l1.length : Int) == 0) = true := beq_iff_eq.mpr c3
  have c3b1 : ((l1.length : Int) != 0) = false := bne_eq_false_iff_eq.mpr c3
  clear c3
  obtain ⟨y310, hy310⟩ : ∃ y_ : List Int, y_ = (([] : List Int)) := ⟨_, rfl⟩
  replace H : (some y310) = some r := by first | (rw [hy310]; with_reducible exact H) | (have H2_ := (Option.bind_some _ _).symm.trans H; rw [hy310]; with_reducible exact H2_) | (have H2_ := (Option.bind_some _ _).symm.trans H; with_reducible exact H2_) | with_reducible exact H | (rw [hy310]; exact H) | exact H
  have Ny310 := Aside0.mk hy310
  clear hy310
  obtain rfl := Option.some.inj H
  go_enter Try.func258, Try.ntmps258
  go_wp2_with (first | ((with_reducible refine gate_dst (N := 13) rfl ?_); refine Kd.R_lit (Kd.int .i64) _ 3 ?hg (N := 13) ?hd (xs := ([] : List Int)) (inner := []) (ok := fun _ => True) (okp := fun _ => True) ?hr ?hp (fun _ hk => hk) trivial (Below.refl _ _) (Nat.le_refl _) (by simp) ?_; (case hd => rfl); (case hg => rfl); (case hr => first | (go_simp; done) | (go_simp; rfl)); (case hp => exact (Reps.none _ _)); intro v311 w4 ho5 hb hg_ hnew_; clear hg_ hnew_; (first | rw [← Ny310.out] at ho5 | (simp only [Int.reduceToNat] at ho5; rw [← Ny310.out] at ho5)); have n0_ := Aside0.mk (Kd.R_lower ho5 (below_size (xB HB.out))); have n1_ := Aside0.mk (below_step (xB HB.out) hb); clear HB; have HO312 := n0_; have HB := n1_; clear n0_ n1_; clear hb ho5))
  go_ret
  exact ⟨_, by first | rfl | (simp [errW_none, errW_some] <;> rfl) | (simp [*, errW_none, errW_some] <;> rfl), xR HO312.out, xB HB.out⟩
 rw [if_neg c3] at H
 have c3b0 : ((l1.length : Int) == 0) = false := beq_eq_false_iff_ne.mpr c3
 have c3b1 : ((l1.length : Int) != 0) = true := bne_iff_ne.mpr c3
 have c3b2 : ¬ (l1 = []) := fun h_ => c3 (by rw [h_]; rfl)
 obtain ⟨ji6, hji6⟩ : ∃ j_ : Int, (wrap64 ((wrap64 ((l0.length : Int) + (l1.length : Int))) - 1)) = j_ := ⟨_, rfl⟩
 replace H : (if 0 ≤ (ji6) then (if (ji6 : Int).toNat ≤ 35184372088832 then (impl_answer.l0 k l1 (List.replicate (ji6 : Int).toNat 0) l0 (l0.length : Int) 0) else (none)) else (none)) = some r := by first | (rw [hji6] at H; exact H) | (simp only [hji6] at H ⊢; exact H)
 have hji6w : (IntKind.i64.wrap ((wrap64 ((l0.length : Int) + (l1.length : Int))) - 1)) = ji6 := (i64_w _).trans hji6
 by_cases c7 : 0 ≤ (ji6)
 rotate_left
 ·rw [if_neg c7] at H
  exact absurd H (by simp)

 rw [if_pos c7] at H
 have c7b0 := eq_true c7
 have c7b1 : decide (0 ≤ (ji6)) = true := decide_eq_true c7
 clear c7
 by_cases c8 : (ji6 : Int).toNat ≤ 35184372088832
 rotate_left
 ·rw [if_neg c8] at H
  exact absurd H (by simp)
 rw [if_pos c8] at H
 have c8b0 := eq_true c8
 have c8b1 : decide ((ji6 : Int).toNat ≤ 35184372088832) = true := decide_eq_true c8
 clear c8
 obtain ⟨y313, hy313⟩ : ∃ y_ : List Int, y_ = (List.replicate (ji6 : Int).toNat 0) := ⟨_, rfl⟩
 replace H : (impl_answer.l0 k l1 y313 l0 (l0.length : Int) 0) = some r := by first | (rw [hy313]; with_reducible exact H) | (have H2_ := (Option.bind_some _ _).symm.trans H; rw [hy313]; with_reducible exact H2_) | (have H2_ := (Option.bind_some _ _).symm.trans H; with_reducible exact H2_) | with_reducible exact H | (rw [hy313]; exact H) | exact H
 have Ny313 := Aside0.mk hy313
 clear hy313
 have H' := Aside0.mk H
 clear H
 go_enter Try.func258, Try.ntmps258
 go_wp2_with (first | ((with_reducible refine gate_dst (N := 20) rfl ?_); refine Kd.R_make (Kd.int .i64) _ 3 rfl (N := 20) rfl 24 _ _ rfl ji6 rfl rfl Try.underlying24 (.int .i64 0) 8 info3 rfl (by decide) (by omega) 0 (ok := fun _ => True) (okp := fun _ => True) rfl (fun _ hk => hk) trivial (of_decide_eq_true (by first | (with_reducible assumption) | assumption)) (Nat.le_trans (Nat.mul_le_mul_right _ (of_decide_eq_true (by first | (with_reducible assumption) | assumption) : ji6.toNat ≤ 35184372088832)) (by omega)) (Below.refl _ _) (Nat.le_refl _) ?_; intro v314 w9 ho10 hb hg_ hnew_; clear hg_ hnew_; (first | rw [← Ny313.out] at ho10 | (simp only [Int.reduceToNat] at ho10; rw [← Ny313.out] at ho10)); have n0_ := Aside0.mk (Kd.R_lower ho10 (below_size (xB HB.out))); have n1_ := Aside0.mk (below_step (xB HB.out) hb); clear HB; have HO315 := n0_; have HB := n1_; clear n0_ n1_; clear hb ho10))
 go_loopg [23] k (fun kq v23 w' => ∃ (x5_1 : List Int) (x23_1 : Int), v23 = .int .i64 x23_1 ∧ Aside0 (impl_answer.l0 kq l1 x5_1 l0 (l0.length : Int) x23_1 = some r) ∧ Aside0 (kq ≤ k) ∧ Aside0 (Kd.R (Kd.int .i64) 3 w' w.heap.size (fun _ => True) v314 x5_1) ∧ Aside0 (Below w.heap.size w w'))
 case atStart => exact ⟨(y313), (0), (by first | rfl | (simp; done) | (simp [*]; done)), H', ⟨Nat.le_refl _⟩, ⟨xR HO315.out⟩, ⟨xB HB.out⟩⟩
 case round =>
  clear H'
  try clear c1
  try clear c3
  try clear c3b0
  try clear c3b1
  try clear c3b2
  try clear c7b0
  try clear c7b1
  try clear c8b0
  try clear c8b1
  obtain ⟨x5_1, x23_1, rfl, HA, HK1, HO_5, HB⟩ := hrel
  cases gk with
  | zero => exact absurd HA.out (by simp [impl_answer.l0])
  | succ k1 =>
   have H := HA.out
   clear HA
   simp only [impl_answer.l0] at H
   by_cases c11 : x23_1 < (l0.length : Int)
   rotate_left
   ·rw [if_neg c11] at H
    have c11b0 : decide (x23_1 < (l0.length : Int)) = false := decide_eq_false c11
    clear c11
    obtain rfl := Option.some.inj H
    go_wp2
    go_ret
    exact ⟨_, by first | rfl | (simp [errW_none, errW_some] <;> rfl) | (simp only [← hji6]; first | rfl | (simp [errW_none, errW_some] <;> rfl)) | (simp [*, errW_none, errW_some] <;> rfl), xR HO_5.out, xB HB.out⟩
   rw [if_pos c11] at H
   have c11b0 : decide (x23_1 < (l0.length : Int)) = true := decide_eq_true c11
   clear c11
   by_cases c12 : 0 ≤ x23_1
   rotate_left
   ·rw [if_neg c12] at H
    exact absurd H (by simp)
   rw [if_pos c12] at H
   have c12b0 : decide (0 ≤ x23_1) = true := decide_eq_true c12
   clear c12
   by_cases c13 : x23_1 < (l0.length : Int)
   rotate_left
   ·rw [if_neg c13] at H
    exact absurd H (by simp)
   rw [if_pos c13] at H
   have c13b0 : decide (x23_1 < (l0.length : Int)) = true := decide_eq_true c13
   clear c13
   have H' := Aside0.mk H
   clear H
   have p316 : 0 ≤ (x23_1 : Int) := of_decide_eq_true (by first | (with_reducible assumption) | assumption)
   have q316 : x23_1 < (l0.length : Int) := of_decide_eq_true (by first | (with_reducible assumption) | assumption)
   obtain ⟨ad316, e316, hx316_0⟩ := Kd.at_int HR0.out x23_1 p316 q316
   cases e316
   replace hx316_0 := (HB.out.cell (World.block_lt_of_cell? w _ hx316_0)).trans hx316_0
   replace p316 := eq_true p316
   replace q316 := eq_true q316
   go_wp2
   go_loopg [30] k1 (fun kq v30 w' => ∃ (x5_2 : List Int) (x30_2 : Int), v30 = .int .i64 x30_2 ∧ Aside0 (impl_answer.l1 kq l1 x5_2 x23_1 (rd l0 x23_1) l0 (l0.length : Int) x23_1 l1 (l1.length : Int) x30_2 = some r) ∧ Aside0 (kq ≤ k1) ∧ Aside0 (Kd.R (Kd.int .i64) 3 w' w.heap.size (fun _ => True) v314 x5_2) ∧ Aside0 (Below w.heap.size w w'))
   case atStart => exact ⟨(x5_1), (0), (by first | rfl | (simp; done) | (simp [*]; done)), H', ⟨Nat.le_refl _⟩, ⟨xR HO_5.out⟩, ⟨xB HB.out⟩⟩
   case round =>
    clear H'
    try clear c11b0
    try clear c12b0
    try clear c13b0
    try clear hx316_0
    try clear p316
    try clear q316
    obtain ⟨x5_2, x30_2, rfl, HA, HK2, HO_5, HB⟩ := hrel
    cases gk with
    | zero => exact absurd HA.out (by simp [impl_answer.l1])
    | succ k2 =>
     have H := HA.out
     clear HA
     simp only [impl_answer.l1] at H
     by_cases c14 : x30_2 < (l1.length : Int)
     rotate_left
     ·rw [if_neg c14] at H
      have c14b0 : decide (x30_2 < (l1.length : Int)) = false := decide_eq_false c14
      clear c14
      have H' := Aside0.mk H
      clear H
      go_wp2
      go_roundg k2
      case measure => have := HK1.out; have := HK2.out; omega
      case rel => exact ⟨(x5_2), (wrap64 (x23_1 + 1)), (by first | rfl | (simp; done) | (simp [*]; done)), H', ⟨by have := HK1.out; have := HK2.out; omega⟩, ⟨xR HO_5.out⟩, ⟨xB HB.out⟩⟩
     rw [if_pos c14] at H
     have c14b0 : decide (x30_2 < (l1.length : Int)) = true := decide_eq_true c14
     clear c14
     by_cases c15 : 0 ≤ x30_2
     rotate_left
     ·rw [if_neg c15] at H
      exact absurd H (by simp)
     rw [if_pos c15] at H
     have c15b0 : decide (0 ≤ x30_2) = true := decide_eq_true c15
     clear c15
     by_cases c16 : x30_2 < (l1.length : Int)
     rotate_left
     ·rw [if_neg c16] at H
      exact absurd H (by simp)
     rw [if_pos c16] at H
     have c16b0 : decide (x30_2 < (l1.length : Int)) = true := decide_eq_true c16
     clear c16
     obtain ⟨ji17, hji17⟩ : ∃ j_ : Int, (wrap64 (x30_2 + x23_1)) = j_ := ⟨_, rfl⟩
     replace H : (if 0 ≤ (ji17) then (if (ji17) < (x5_2.length : Int) then (impl_answer.l1 k2 l1 (x5_2.set ((ji17) : Int).toNat (wrap64 ((rd x5_2 (ji17)) + (wrap64 ((rd l0 x23_1) * (rd l1 x30_2)))))) x23_1 (rd l0 x23_1) l0 (l0.length : Int) x23_1 l1 (l1.length : Int) (wrap64 (x30_2 + 1))) else (none)) else (none)) = some r := by first | (rw [hji17] at H; exact H) | (simp only [hji17] at H ⊢; exact H)
     have hji17w : (IntKind.i64.wrap (x30_2 + x23_1)) = ji17 := (i64_w _).trans hji17
     by_cases c18 : 0 ≤ (ji17)
     rotate_left
     ·rw [if_neg c18] at H
      exact absurd H (by simp)
     rw [if_pos c18] at H
     have c18b0 : decide (0 ≤ (ji17)) = true := decide_eq_true c18
     clear c18
     by_cases c19 : (ji17) < (x5_2.length : Int)
     rotate_left
     ·rw [if_neg c19] at H
      exact absurd H (by simp)
     rw [if_pos c19] at H
     have c19b0 : decide ((ji17) < (x5_2.length : Int)) = true := decide_eq_true c19
     clear c19
     obtain ⟨y319, hy319⟩ : ∃ y_ : List Int, y_ = (x5_2.set ((ji17) : Int).toNat (wrap64 ((rd x5_2 (ji17)) + (wrap64 ((rd l0 x23_1) * (rd l1 x30_2)))))) := ⟨_, rfl⟩
     replace H : (impl_answer.l1 k2 l1 y319 x23_1 (rd l0 x23_1) l0 (l0.length : Int) x23_1 l1 (l1.length : Int) (wrap64 (x30_2 + 1))) = some r := by first | (rw [hy319]; with_reducible exact H) | (have H2_ := (Option.bind_some _ _).symm.trans H; rw [hy319]; with_reducible exact H2_) | (have H2_ := (Option.bind_some _ _).symm.trans H; with_reducible exact H2_) | with_reducible exact H | (rw [hy319]; exact H) | exact H
     have Ny319 := Aside0.mk hy319
     clear hy319
     have H' := Aside0.mk H
     clear H
     have p317 : 0 ≤ (x30_2 : Int) := of_decide_eq_true (by first | (with_reducible assumption) | assumption)
     have q317 : x30_2 < (l1.length : Int) := of_decide_eq_true (by first | (with_reducible assumption) | assumption)
     obtain ⟨ad317, e317, hx317_0⟩ := Kd.at_int HR1.out x30_2 p317 q317
     cases e317
     replace hx317_0 := (HB.out.cell (World.block_lt_of_cell? w _ hx317_0)).trans hx317_0
     replace p317 := eq_true p317
     replace q317 := eq_true q317
     obtain ⟨Ao21, co21, eo21⟩ := Kd.R_slice HO_5.out
     subst eo21
     have p318 : 0 ≤ ((ji17) : Int) := of_decide_eq_true (by first | (with_reducible assumption) | assumption | (rw [← hji17]; first | (with_reducible assumption) | assumption))
     have q318 : (ji17) < (x5_2.length : Int) := of_decide_eq_true (by first | (with_reducible assumption) | assumption | (rw [← hji17]; first | (with_reducible assumption) | assumption))
     obtain ⟨ad318, e318, hx318_0⟩ := Kd.at_int (Kd.R_reads' HO_5.out).2.2 (ji17) p318 q318
     cases e318
     replace p318 := eq_true p318
     replace q318 := eq_true q318
     have p20 : 0 ≤ ((ji17) : Int) := of_decide_eq_true (by first | (with_reducible assumption) | assumption | (rw [← hji17]; first | (with_reducible assumption) | assumption))
     have q20 : ((ji17) : Int) < ((x5_2.length : Int) : Int) := of_decide_eq_true (by first | (with_reducible assumption) | assumption | (rw [← hji17]; first | (with_reducible assumption) | assumption))
     obtain ⟨go20, co20, eo20, gb20, gl20, cl20, HG20⟩ := Kd.R_form HO_5.out (by omega)
     (first | cases eo20 | (injection eo20 with ea_ en_ ec_; (first | subst ea_ | (injection ea_ with ea_; subst ea_)); subst ec_; clear en_))
     have GB20 := Aside0.mk gb20
     have GG20 := Aside0.mk HG20
     clear gb20 gl20 HG20
     (first | simp only [add_plain] at hx318_0 | skip)
     obtain ⟨hx20_0, hf20_0⟩ := Kd.R_celln 0 HO_5.out ((ji17) : Int) p20 q20
     replace p20 := eq_true p20
     replace q20 := eq_true q20
     have HP22 := Kd.R_putg HO_5.out ((ji17) : Int) (wrap64 ((rd x5_2 (ji17)) + (wrap64 ((rd l0 x23_1) * (rd l1 x30_2)))))
     go_wp2_with (first | ((with_reducible refine gate_store (t := 3) (p := 45) rfl ?_); refine store_event (t := 3) (p := 45) (v := ?vo_w23) (w1 := (wr.setCell ⟨go20, ((ji17) : Int).toNat, none⟩ (.int .i64 (wrap64 ((rd x5_2 (ji17)) + (wrap64 ((rd l0 x23_1) * (rd l1 x30_2)))))))) ?hg ?ho ?hn ?hr ?_; (case ho => rfl); (case hg => rfl); (case hn => rfl); (case hr => first | (go_simp; done) | (go_simp; rfl)); intro w23 hw; have hg : wr.grownBy w23 (some go20) := (by rw [hw]; exact HP22.2); have hp_ : Kd.R (Kd.int .i64) 3 w23 w.heap.size (fun _ => True) (.slice (some ⟨go20, 0, none⟩) x5_2.length co21) y319 := (by rw [hw, Ny319.out]; exact HP22.1); clear HP22; have n0_ := Aside0.mk (hp_); have n1_ := Aside0.mk ((by rw [hw]; exact below_set (HB.out) GB20.out : Below w.heap.size w w23)); clear HO_5; clear HB; have HO_5 := n0_; have HB := n1_; clear n0_ n1_; clear hg hw hp_))
     go_roundg k2
     case measure => have := HK1.out; have := HK2.out; omega
     case rel => exact ⟨(y319), (wrap64 (x30_2 + 1)), (by first | rfl | (simp; done) | (simp [*]; done)), H', ⟨by have := HK1.out; have := HK2.out; omega⟩, ⟨xR HO_5.out⟩, ⟨xB HB.out⟩⟩
/-! ### bits_Mul32: function 401 -/
def bits_Mul32.f (a0 : Int) (a1 : Int) : Option (Int × Int) := some (((IntKind.u64.wrap ((IntKind.u64.wrap (a0)) * (IntKind.u64.wrap (a1)))) / 4294967296) % 4294967296, (IntKind.u64.wrap ((IntKind.u64.wrap (a0)) * (IntKind.u64.wrap (a1)))) % 4294967296)
set_option maxHeartbeats 8000000 in
set_option maxRecDepth 100000 in
theorem bits_Mul32.calls (a0 : Int) (a1 : Int) (r1 : Int) (r2 : Int) (w : World) (h : bits_Mul32.f a0 a1 = some (r1, r2)) :
  Calls Try.prog 401 #[.int .u32 a0, .int .u32 a1] w fun e w' => e = .returned (.tuple #[.int .u32 r1, .int .u32 r2]) ∧ Drawn0 w w' := by
 have H : (some (((IntKind.u64.wrap ((IntKind.u64.wrap (a0)) * (IntKind.u64.wrap (a1)))) / 4294967296) % 4294967296, (IntKind.u64.wrap ((IntKind.u64.wrap (a0)) * (IntKind.u64.wrap (a1)))) % 4294967296)) = some (r1, r2) := h
 clear h
 simp only [Option.some.injEq, Prod.mk.injEq] at H
 obtain ⟨rfl, rfl⟩ := H
 go_enter Try.func401, Try.ntmps401
 go_wp2
 go_ret2
 exact ⟨by first | rfl | (simp; done) | (simp [*]; done), by repeat (first | exact Drawn0.refl _ | apply Drawn0.step)⟩

/-! ### bits_Mul64: function 402 -/
def bits_Mul64.f (a0 : Int) (a1 : Int) : Option (Int × Int) := some (IntKind.u64.wrap ((IntKind.u64.wrap ((IntKind.u64.wrap ((a0 / 4294967296) * (a1 / 4294967296))) + ((IntKind.u64.wrap ((IntKind.u64.wrap ((a0 / 4294967296) * (Go.bits .and .u64 a1 4294967295))) + ((IntKind.u64.wrap ((Go.bits .and .u64 a0 4294967295) * (Go.bits .and .u64 a1 4294967295))) / 4294967296))) / 4294967296))) + ((IntKind.u64.wrap ((Go.bits .and .u64 (IntKind.u64.wrap ((IntKind.u64.wrap ((a0 / 4294967296) * (Go.bits .and .u64 a1 4294967295))) + ((IntKind.u64.wrap ((Go.bits .and .u64 a0 4294967295) * (Go.bits .and .u64 a1 4294967295))) / 4294967296))) 4294967295) + (IntKind.u64.wrap ((Go.bits .and .u64 a0 4294967295) * (a1 / 4294967296))))) / 4294967296)), IntKind.u64.wrap (a0 * a1))
set_option maxHeartbeats 8000000 in
set_option maxRecDepth 100000 in
theorem bits_Mul64.calls (a0 : Int) (a1 : Int) (r1 : Int) (r2 : Int) (w : World) (h : bits_Mul64.f a0 a1 = some (r1, r2)) :
  Calls Try.prog 402 #[.int .u64 a0, .int .u64 a1] w fun e w' => e = .returned (.tuple #[.int .u64 r1, .int .u64 r2]) ∧ Drawn0 w w' := by
 have H : (some (IntKind.u64.wrap ((IntKind.u64.wrap ((IntKind.u64.wrap ((a0 / 4294967296) * (a1 / 4294967296))) + ((IntKind.u64.wrap ((IntKind.u64.wrap ((a0 / 4294967296) * (Go.bits .and .u64 a1 4294967295))) + ((IntKind.u64.wrap ((Go.bits .and .u64 a0 4294967295) * (Go.bits .and .u64 a1 4294967295))) / 4294967296))) / 4294967296))) + ((IntKind.u64.wrap ((Go.bits .and .u64 (IntKind.u64.wrap ((IntKind.u64.wrap ((a0 / 4294967296) * (Go.bits .and .u64 a1 4294967295))) + ((IntKind.u64.wrap ((Go.bits .and .u64 a0 4294967295) * (Go.bits .and .u64 a1 4294967295))) / 4294967296))) 4294967295) + (IntKind.u64.wrap ((Go.bits .and .u64 a0 4294967295) * (a1 / 4294967296))))) / 4294967296)), IntKind.u64.wrap (a0 * a1))) = some (r1, r2) := h
 clear h
 simp only [Option.some.injEq, Prod.mk.injEq] at H
 obtain ⟨rfl, rfl⟩ := H
 go_enter Try.func402, Try.ntmps402
 go_wp2
 go_ret2
 exact ⟨by first | rfl | (simp; done) | (simp [*]; done), by repeat (first | exact Drawn0.refl _ | apply Drawn0.step)⟩

/-! ### bits_Mul: function 399 -/
def bits_Mul.f (a0 : Int) (a1 : Int) : Option (Int × Int) := (bits_Mul64.f a0 a1).bind fun bt320 => (some (bt320.1, bt320.2))
set_option maxHeartbeats 8000000 in
set_option maxRecDepth 100000 in
theorem bits_Mul.calls (a0 : Int) (a1 : Int) (r1 : Int) (r2 : Int) (w : World) (h : bits_Mul.f a0 a1 = some (r1, r2)) :
  Calls Try.prog 399 #[.int .u64 a0, .int .u64 a1] w fun e w' => e = .returned (.tuple #[.int .u64 r1, .int .u64 r2]) ∧ Drawn0 w w' := by
 have H : ((bits_Mul64.f a0 a1).bind fun bt320 => (some (bt320.1, bt320.2))) = some (r1, r2) := h
 clear h
 replace H := Option.bind_eq_some_iff.mp H
 obtain ⟨⟨t320, t321⟩, A30, H⟩ := H
 (try dsimp only at H)
 have A3 := Aside0.mk A30
 clear A30
 simp only [Option.some.injEq, Prod.mk.injEq] at H
 obtain ⟨rfl, rfl⟩ := H
 go_enter Try.func399, Try.ntmps399
 go_wp2_with (first | ((with_reducible refine gate_callee (f := 402) rfl ?_); refine goesL_ (some 25) rfl rfl Try.func402 (by kernel_rfl) rfl #[.int .u64 a0, .int .u64 a1] rfl (by (try simp only [List.map_toArray, List.map_cons, List.map_nil]); first | done | rfl | (simp only [List.length_drop, List.length_take]; rfl)) ?_; (with_reducible refine (bits_Mul64.calls a0 a1 t320 t321 _ A3.out).mono ?_); rintro e w' ⟨rfl, ⟨nd, rfl⟩⟩; refine ⟨_, rfl, ?_⟩))
 go_ret2
 exact ⟨by first | rfl | (simp; done) | (simp [*]; done), by repeat (first | exact Drawn0.refl _ | apply Drawn0.step)⟩

/-! ### slices_Repeat_int_int: function 388 -/
def slices_Repeat_int_int.f (l0 : List Int) (a1 : Int) : Option (List Int) := if l0.length = 1 then (if 1 ≤ a1 then (if a1 ≤ 1000 then some (List.replicate a1.toNat (rd l0 0)) else none) else none) else none
theorem mul_small (a : Int) (h0 : 1 ≤ a) (h1 : a ≤ 1000) : bits_Mul.f 1 a = some (0, a) := by
 have e : Go.bits .and .u64 a 4294967295 = a := by
  have := bits_mask .u64 64 (by decide) (fun n h0 h1 => by
   simp only [IntKind.wrap, IntKind.bits, IntKind.signed]
   simp
   omega) 32 (by decide) a (by omega) (by omega)
  simp at this
  rw [this]
  omega
 have e1 : Go.bits .and .u64 1 4294967295 = 1 := by decide
 have w : ∀ n : Int, 0 ≤ n → n ≤ 1000000 → IntKind.u64.wrap n = n := by
  intro n g0 g1
  simp only [IntKind.wrap, IntKind.bits, IntKind.signed]
  simp
  omega
 have d : a / 4294967296 = 0 := by omega
 have d1 : (1 : Int) / 4294967296 = 0 := by decide
 have w0 := w 0 (by omega) (by omega)
 have wa := w a (by omega) (by omega)
 have b0 : Go.bits .and .u64 0 4294967295 = 0 := by decide
 unfold bits_Mul.f bits_Mul64.f
 simp only [e, e1, d, d1, Int.zero_mul, Int.mul_zero, Int.one_mul, w0, wa, Int.zero_add, Int.add_zero, b0, Int.zero_ediv, Option.bind_some]
theorem splice_rep (X Z : Value) (R : List Value) (N n m : Nat) (h : n + m ≤ N) : splice (List.replicate n X ++ (List.replicate (N - n) Z ++ R)) n (List.replicate m X) = List.replicate (n + m) X ++ (List.replicate (N - (n + m)) Z ++ R) := by
 unfold splice
 rw [List.length_replicate]
 have e1 : (List.replicate n X ++ (List.replicate (N - n) Z ++ R)).take n = List.replicate n X := by simp
 have e2 : (List.replicate n X ++ (List.replicate (N - n) Z ++ R)).drop (n + m) = List.replicate (N - (n + m)) Z ++ R := by
  rw [List.drop_append, List.drop_append]
  simp
  first | done | omega | (rw [show m - (N - n) = 0 by omega]; simp; omega)
 rw [e1, e2, ← List.append_assoc, List.replicate_append_replicate]
theorem rep_src {W : World} {g n m N : Nat} {X Z : Value} {R : List Value} (hG : W.heap[g]? = some (.cells (List.replicate n X ++ (List.replicate (N - n) Z ++ R)).toArray 3 (0, 0))) (hm : m ≤ n) (j : Nat) (v : Value) (hj : (List.replicate m X)[j]? = some v) : W.cell? ((⟨g, 0, none⟩ : Addr).add j) = some v := by
 rw [List.getElem?_replicate] at hj
 split at hj
 ·obtain rfl := Option.some.inj hj
  rw [add_plain, cell_of_row W g j _ 3 (0, 0) hG, List.getElem?_toArray, List.getElem?_append_left (by rw [List.length_replicate]; omega), List.getElem?_replicate, if_pos (by omega)]
 ·cases hj
theorem rep_len {n N cap : Nat} {X Z : Value} {R : List Value} (h1 : n ≤ N) (h2 : N ≤ cap) (h3 : R.length = cap - N) : (List.replicate n X ++ (List.replicate (N - n) Z ++ R)).length = cap := by
 simp
 omega
set_option maxHeartbeats 8000000 in
set_option maxRecDepth 100000 in
theorem slices_Repeat_int_int.calls (A0 : Option Addr) (c0 : Nat) (l0 : List Int) (a1 : Int) (r : List Int) (w : World) (hr0 : Kd.C (Kd.int .i64) w A0 l0.length l0) (hc0 : l0.length ≤ c0) (h : slices_Repeat_int_int.f l0 a1 = some r) :
  Calls Try.prog 388 #[.slice A0 l0.length c0, .int .i64 a1] w fun e w' => ∃ v0_ : Value, e = .returned (v0_) ∧ Kd.R (Kd.int .i64) 3 w' w.heap.size (fun _ => True) v0_ r ∧ Below w.heap.size w w' := by
 have HR0 := Aside0.mk hr0
 clear hr0
 unfold slices_Repeat_int_int.f at h
 by_cases c1 : l0.length = 1
 rotate_left
 · rw [if_neg c1] at h
   cases h
 rw [if_pos c1] at h
 by_cases c2 : 1 ≤ a1
 rotate_left
 · rw [if_neg c2] at h
   cases h
 rw [if_pos c2] at h
 by_cases c3 : a1 ≤ 1000
 rotate_left
 · rw [if_neg c3] at h
   cases h
 rw [if_pos c3] at h
 obtain rfl := Option.some.inj h
 obtain ⟨x, rfl⟩ : ∃ x, l0 = [x] := by
   rcases l0 with _ | ⟨x, _ | ⟨y, t⟩⟩
   · simp at c1
   · exact ⟨x, rfl⟩
   · simp at c1
 have hM := mul_small a1 c2 c3
 have b0 : decide (a1 < 0) = false := decide_eq_false (by omega)
 have b1 : decide (a1 > 9223372036854775807) = false := decide_eq_false (by omega)
 have hw1 : IntKind.u64.wrap a1 = a1 := by
    simp only [IntKind.wrap, IntKind.bits, IntKind.signed]
    simp
    omega
 have hw2 : IntKind.i64.wrap a1 = a1 := by rw [IntKind.wrap_i64]; omega
 have hN : 0 ≤ a1 := by omega
 have hNs : a1.toNat ≤ 1000 := by omega
 go_enter Try.func388, Try.ntmps388
 obtain ⟨N, hNd⟩ : ∃ N : Nat, a1 = (N : Int) := ⟨a1.toNat, by omega⟩
 subst hNd
 have hN1 : 1 ≤ N := by omega
 have hN2 : N ≤ 1000 := by omega
 have HB := Aside0.mk (Below.refl w.heap.size w)
 obtain ⟨ad0, hA0, hx0_⟩ := Kd.at_int HR0.out 0 (by omega) (by simp)
 subst hA0
 clear hx0_
 go_wp2_with (first | (go_at_call 399; (with_reducible refine (bits_Mul.calls 1 (N : Int) 0 (N : Int) _ hM).mono ?_); rintro e w' ⟨rfl, ⟨nd, rfl⟩⟩) | ((with_reducible refine gate_dst (N := 30) rfl ?_); refine Kd.R_make (Kd.int .i64) _ 3 rfl (N := 30) rfl 24 _ _ rfl (N : Int) rfl rfl Try.underlying24 (.int .i64 0) 8 info3 rfl (by decide) (by omega) 0 (ok := fun _ => True) (okp := fun _ => True) rfl (fun _ hk => hk) trivial hN (Nat.le_trans (Nat.mul_le_mul_right _ hNs) (by decide)) (Below.refl _ _) (Nat.le_refl _) ?_; intro v466 w6 ho7 hb hg_ hnew_; have hown := Kd.own_of_R ho7; simp only [Int.toNat_natCast, List.length_replicate, Nat.mul_one] at hown; rcases hown.2 with ⟨_, hx0⟩ | ⟨g, cap, cur, hv, hbg, hh, hnc, hcm, hcs, htake⟩; (exact absurd hx0 (by omega)); subst hv; have n1_ := Aside0.mk (below_step (by repeat (first | (with_reducible first | exact HB.out | apply below_alloc | apply pw_below_drewN | apply below_drew1) | exact HB.out)) hb); clear HB; have HB := n1_; clear n1_) | ((with_reducible refine gate_dst (N := 33) rfl ?_); obtain ⟨ad1, hA1, hx1⟩ := Kd.at_int (Kd.C_below HR0.out HB.out) 0 (by omega) (by simp); refine wpList_copy_splice rfl (.tmp 31) (.tmp 32) 24 24 rfl 3 Try.underlying24 (by kernel_rfl) (some ⟨g, 0, none⟩) (some ad0) N cap 1 c0 rfl rfl g 0 cur.toList 3 (by simpa using hh) (List.replicate 1 (.int .i64 x)) (by rw [List.length_replicate]; exact (Nat.min_eq_left hN1).symm) (fun _ => ⟨rfl, ad1, hA1, ?hsrc⟩) ?hfit (by simp [Value.oneCell']) w.heap.size w HB.out ?hbase ?_; (case hsrc => intro j v hj; rcases j with _ | j; (obtain rfl := Option.some.inj hj; exact hx1); (simp at hj)); (case hfit => rw [List.length_replicate, Array.length_toList]; omega); (case hbase => exact hbg); intro w7 hg7 hb7; clear HB; have HB := Aside0.mk hb7; clear hb7))
 have hcur : cur.toList = List.replicate 0 (Value.int .i64 x) ++ (List.replicate (N - 0) (Value.int .i64 0) ++ cur.toList.drop N) := by
  have e := List.take_append_drop N cur.toList
  rw [Nat.mul_one] at htake
  rw [htake] at e
  rw [← e]
  simp [encs, List.map_replicate, List.drop_append]
 obtain ⟨R, hR⟩ : ∃ R, R = cur.toList.drop N := ⟨_, rfl⟩
 rw [← hR] at hcur
 have HG : Aside0 (w7.heap[g]? = some (.cells (List.replicate 1 (Value.int .i64 x) ++ (List.replicate (N - 1) (Value.int .i64 0) ++ R)).toArray 3 (0, 0))) := ⟨by
  have h1 : w7.heap[g]? = some (Obj.cells (splice cur.toList 0 (List.replicate 1 (Value.int IntKind.i64 x))).toArray 3 (0, 0)) := hg7
  rw [h1, hcur, splice_rep _ _ _ _ 0 1 (by omega), Nat.zero_add]⟩
 have HBG := Aside0.mk hbg
 have HNC := Aside0.mk hnc
 have HCM := Aside0.mk hcm
 have HRL := Aside0.mk (show R.length = cap - N by rw [hR, List.length_drop, Array.length_toList]; omega)
 clear hcur hR hg7 hcs hcm hnc hbg htake hh ho7 hown hb hg_ hnew_
 go_loopg [8] (N + 1) (fun kq v8 w' => ∃ n : Nat, v8 = .int .i64 (n : Int) ∧ Aside0 (1 ≤ n ∧ n ≤ N ∧ N - n < kq) ∧ Aside0 (kq ≤ N + 1) ∧ Aside0 (w'.heap[g]? = some (.cells (List.replicate n (Value.int .i64 x) ++ (List.replicate (N - n) (Value.int .i64 0) ++ R)).toArray 3 (0, 0))) ∧ Aside0 (Below w.heap.size w w'))
 case atStart => exact ⟨1, rfl, ⟨by omega, by omega, by omega⟩, ⟨Nat.le_refl _⟩, HG, HB⟩
 case round =>
  clear HG HB
  obtain ⟨n, rfl, HA, HK1, HG, HB⟩ := hrel
  cases gk with
  | zero => exact absurd HA.out.2.2 (by omega)
  | succ k1 =>
   have hA := HA.out
   by_cases c4 : (n : Int) < (N : Int)
   rotate_left
   · have c4b0 : decide ((n : Int) < (N : Int)) = false := decide_eq_false c4
     go_wp2
     go_ret
     have hnN : n = N := by omega
     subst hnN
     have hG := HG.out
     rw [Nat.sub_self, List.replicate_zero, List.nil_append] at hG
     refine ⟨.slice (some ⟨g, 0, none⟩) n cap, rfl, ?_, HB.out⟩
     have hr : rd [x] 0 = x := rfl
     rw [hr]
     refine Kd.R_of_own ?_ (fun _ _ => trivial)
     rw [List.length_replicate]
     refine ⟨by simp [encs], .inr ⟨g, cap, _, rfl, HBG.out, hG, HNC.out, HCM.out, ?_, ?_⟩⟩
     · have := HRL.out
       have := HNC.out
       simp
       omega
     · simp [encs]
   have c4b0 : decide ((n : Int) < (N : Int)) = true := decide_eq_true c4
   have q1 : n ≤ N := by omega
   have q2 : n ≤ cap := by have := HNC.out; omega
   have q3 : (cap = n) = False := eq_false (by have := HNC.out; omega)
   clear hA
   go_wp2
   go_region_law (refine step_copy_splice rfl (.tmp 41) (.tmp 44) 24 24 rfl 3 Try.underlying24 (by kernel_rfl) (some ⟨g, n, none⟩) (some ⟨g, 0, none⟩) (N - n) (cap - n) n cap (by first | rfl | (simp only [q3, if_false]; rfl)) rfl g n (List.replicate n (Value.int .i64 x) ++ (List.replicate (N - n) (Value.int .i64 0) ++ R)) 3 HG.out (List.replicate (min n (N - n)) (.int .i64 x)) (List.length_replicate) (fun _ => ⟨rfl, ⟨g, 0, none⟩, rfl, ?hsrc⟩) ?hfit (fun v hv => by rw [List.eq_of_mem_replicate hv]; rfl) w.heap.size w (by repeat (first | (with_reducible first | exact HB.out | apply below_alloc | apply pw_below_drewN | apply below_drew1) | exact HB.out)) HBG.out ?_; (case hsrc => intro j v hj; exact rep_src (W := World.drew _) HG.out (Nat.min_le_left _ _) j v hj); (case hfit => have e_ := HNC.out; rw [rep_len q1 HNC.out HRL.out, List.length_replicate]; omega); intro w8 hg8 hb8)
   go_wp2
   go_roundg k1
   case measure => have := HK1.out; omega
   case rel =>
    have hA2 := HA.out
    have hmn : min n (N - n) ≤ n ∧ min n (N - n) ≤ N - n ∧ 1 ≤ min n (N - n) := by omega
    have h8 : w8.heap[g]? = some (Obj.cells (splice (List.replicate n (Value.int IntKind.i64 x) ++ (List.replicate (N - n) (Value.int IntKind.i64 0) ++ R)) n (List.replicate (min n (N - n)) (Value.int IntKind.i64 x))).toArray 3 (0, 0)) := hg8
    rw [splice_rep _ _ _ _ n (min n (N - n)) (by omega)] at h8
    refine ⟨n + min n (N - n), ?_, ⟨by omega, by omega, by omega⟩, ⟨by have := HK1.out; omega⟩, ⟨h8⟩, ⟨hb8⟩⟩
    rw [IntKind.wrap_i64]
    have e9 : ((n : Int) + ((min n (N - n) : Nat) : Int) + 9223372036854775808) % 18446744073709551616 - 9223372036854775808 = ((n + min n (N - n) : Nat) : Int) := by omega
    rw [e9]
def impl_comb.l0 : Nat → Int → List Int → Int → Int → Option (List Int)
 | 0, _, _, _, _ => none
 | k + 1, x1, x5, x7, x8 => if x8 < x7 then ((slices_Repeat_int_int.f (([1] : List Int)) x1).bind fun t328 => ((impl_answer.f k x5 t328).bind fun t331 => (impl_comb.l0 k x1 t331 x7 (wrap64 (x8 + 1))))) else (some x5)
def impl_comb.f (k : Nat) (a0 : Int) (a1 : Int) : Option (List Int) := impl_comb.l0 k a1 (([1] : List Int)) a0 0
theorem impl_comb.mono_l : ∀ k, (∀ y0 y1 y2 y3, LeO (impl_comb.l0 k y0 y1 y2 y3) (impl_comb.l0 (k + 1) y0 y1 y2 y3))
 | 0 => fun _ _ _ _ r h => by simp [impl_comb.l0] at h
 | k + 1 => by
  have ih0 := impl_comb.mono_l k
  ·intro y0 y1 y2 y3
   unfold impl_comb.l0
   repeat' first
   | (with_reducible exact ih0 _ _ _ _)
   | (with_reducible exact impl_answer.mono _ _ _)
   | (with_reducible exact LeO.refl _)
   | (with_reducible exact LeO.none _)
   | (with_reducible refine LeO.ite ?_ ?_)
   | (with_reducible refine LeO.bind ?_ (fun _ => ?_))
   | exact ih0 _ _ _ _
   | exact impl_answer.mono _ _ _
   | exact LeO.none _
   | refine LeO.ite ?_ ?_
   | refine LeO.bind ?_ (fun _ => ?_)
theorem impl_comb.mono : ∀ a0 a1 k, LeO (impl_comb.f k a0 a1) (impl_comb.f (k + 1) a0 a1) := by
 intro a0 a1 k
 have ih0 := impl_comb.mono_l k
 unfold impl_comb.f
 repeat' first
   | (with_reducible exact ih0 _ _ _ _)
   | (with_reducible exact impl_answer.mono _ _ _)
   | (with_reducible exact LeO.refl _)
   | (with_reducible exact LeO.none _)
   | (with_reducible refine LeO.ite ?_ ?_)
   | (with_reducible refine LeO.bind ?_ (fun _ => ?_))
   | exact ih0 _ _ _ _
   | exact impl_answer.mono _ _ _
   | exact LeO.none _
   | refine LeO.ite ?_ ?_
   | refine LeO.bind ?_ (fun _ => ?_)
set_option maxHeartbeats 8000000 in
set_option maxRecDepth 100000 in
theorem impl_comb.calls (k : Nat) (a0 : Int) (a1 : Int) (r : List Int) (w : World) (h : impl_comb.f k a0 a1 = some r) :
  Calls Try.prog 324 #[.int .i64 a0, .int .i64 a1] w fun e w' => ∃ v0_ : Value, e = .returned (v0_) ∧ Kd.R (Kd.int .i64) 3 w' w.heap.size (fun _ => True) v0_ r ∧ Below w.heap.size w w' := by
 have HB := Aside0.mk (Below.refl w.heap.size w)
 have H : (impl_comb.l0 k a1 (([1] : List Int)) a0 0) = some r := h
 clear h
 obtain ⟨y322, hy322⟩ : ∃ y_ : List Int, y_ = (([1] : List Int)) := ⟨_, rfl⟩
 replace H : (impl_comb.l0 k a1 y322 a0 0) = some r := by first | (rw [hy322]; with_reducible exact H) | (have H2_ := (Option.bind_some _ _).symm.trans H; rw [hy322]; with_reducible exact H2_) | (have H2_ := (Option.bind_some _ _).symm.trans H; with_reducible exact H2_) | with_reducible exact H | (rw [hy322]; exact H) | exact H
 have Ny322 := Aside0.mk hy322
 clear hy322
 have H' := Aside0.mk H
 clear H
 go_enter Try.func324, Try.ntmps324
 go_wp2_with (first | ((with_reducible refine gate_dst (N := 6) rfl ?_); refine Kd.R_lit (Kd.int .i64) _ 3 ?hg (N := 6) ?hd (xs := ([1] : List Int)) (inner := [.int .i64 1]) (ok := fun _ => True) (okp := fun _ => True) ?hr ?hp (fun _ hk => hk) trivial (Below.refl _ _) (Nat.le_refl _) (by simp) ?_; (case hd => rfl); (case hg => rfl); (case hr => first | (go_simp; done) | (go_simp; rfl)); (case hp => exact (Reps.one (show Kd.M (Kd.int .i64) _ _ _ 1 [.int .i64 1] from rfl) (Reps.none _ _))); intro v323 w3 ho4 hb hg_ hnew_; clear hg_ hnew_; (first | rw [← Ny322.out] at ho4 | (simp only [Int.reduceToNat] at ho4; rw [← Ny322.out] at ho4)); have n0_ := Aside0.mk (Kd.R_lower ho4 (below_size (xB HB.out))); have n1_ := Aside0.mk (below_step (xB HB.out) hb); clear HB; have HO324 := n0_; have HB := n1_; clear n0_ n1_; clear hb ho4))
 go_loopg [5, 8] k (fun kq v5 v8 w' => ∃ (x5_1 : List Int) (x8_1 : Int), v8 = .int .i64 x8_1 ∧ Aside0 (impl_comb.l0 kq a1 x5_1 a0 x8_1 = some r) ∧ Aside0 (kq ≤ k) ∧ Aside0 (Kd.R (Kd.int .i64) 3 w' w.heap.size (fun _ => True) v5 x5_1) ∧ Aside0 (Below w.heap.size w w'))
 case atStart => exact ⟨(y322), (0), (by first | rfl | (simp; done) | (simp [*]; done)), H', ⟨Nat.le_refl _⟩, ⟨xR HO324.out⟩, ⟨xB HB.out⟩⟩
 case round =>
  clear H'
  obtain ⟨x5_1, x8_1, rfl, HA, HK1, HO_5, HB⟩ := hrel
  cases gk with
  | zero => exact absurd HA.out (by simp [impl_comb.l0])
  | succ k1 =>
   have H := HA.out
   clear HA
   simp only [impl_comb.l0] at H
   by_cases c5 : x8_1 < a0
   rotate_left
   ·rw [if_neg c5] at H
    have c5b0 : decide (x8_1 < a0) = false := decide_eq_false c5
    clear c5
    obtain rfl := Option.some.inj H
    go_wp2
    go_ret
    exact ⟨_, by first | rfl | (simp [errW_none, errW_some] <;> rfl) | (simp [*, errW_none, errW_some] <;> rfl), xR HO_5.out, xB HB.out⟩

   rw [if_pos c5] at H
   have c5b0 : decide (x8_1 < a0) = true := decide_eq_true c5
   clear c5
   obtain ⟨y325, hy325⟩ : ∃ y_ : List Int, y_ = (([1] : List Int)) := ⟨_, rfl⟩
   replace H : ((slices_Repeat_int_int.f y325 a1).bind fun t328 => ((impl_answer.f k1 x5_1 t328).bind fun t331 => (impl_comb.l0 k1 a1 t331 a0 (wrap64 (x8_1 + 1))))) = some r := by first | (rw [hy325]; with_reducible exact H) | (have H2_ := (Option.bind_some _ _).symm.trans H; rw [hy325]; with_reducible exact H2_) | (have H2_ := (Option.bind_some _ _).symm.trans H; with_reducible exact H2_) | with_reducible exact H | (rw [hy325]; exact H) | exact H
   have Ny325 := Aside0.mk hy325
   clear hy325
   replace H := Option.bind_eq_some_iff.mp H
   obtain ⟨t328, A60, H⟩ := H
   (try dsimp only at H)
   have A6 := Aside0.mk A60
   clear A60
   replace H := Option.bind_eq_some_iff.mp H
   obtain ⟨t331, A70, H⟩ := H
   (try dsimp only at H)
   have A7 := Aside0.mk A70
   clear A70
   have H' := Aside0.mk H
   clear H
   go_wp2_with (first | ((with_reducible refine gate_dst (N := 11) rfl ?_); refine Kd.R_lit (Kd.int .i64) _ 3 ?hg (N := 11) ?hd (xs := ([1] : List Int)) (inner := [.int .i64 1]) (ok := fun _ => True) (okp := fun _ => True) ?hr ?hp (fun _ hk => hk) trivial (Below.refl _ _) (Nat.le_refl _) (by simp) ?_; (case hd => rfl); (case hg => rfl); (case hr => first | (go_simp; done) | (go_simp; rfl)); (case hp => exact (Reps.one (show Kd.M (Kd.int .i64) _ _ _ 1 [.int .i64 1] from rfl) (Reps.none _ _))); intro v326 w8 ho9 hb hg_ hnew_; clear hg_ hnew_; (first | rw [← Ny325.out] at ho9 | (simp only [Int.reduceToNat] at ho9; rw [← Ny325.out] at ho9)); have n0_ := Aside0.mk (Kd.R_elder' (xR HO_5.out) (Kd.R_base ho9) hb); have n1_ := Aside0.mk (Kd.R_lower (Kd.R_new' ho9 (Kd.R_lt (xR HO_5.out))) (below_size (xB HB.out))); have n2_ := Aside0.mk (below_step (xB HB.out) hb); clear HO_5; clear HB; have HO_5 := n0_; have HO327 := n1_; have HB := n2_; clear n0_ n1_ n2_; clear hb ho9; obtain ⟨Ao10, co10, eo10⟩ := Kd.R_slice HO327.out; subst eo10) | ((with_reducible refine gate_callee (f := 388) rfl ?_); refine goesL_ (some 13) rfl rfl Try.func388 (by kernel_rfl) rfl #[.slice Ao10 y325.length co10, .int .i64 a1] rfl (by (try simp only [List.map_toArray, List.map_cons, List.map_nil]); first | done | rfl | (simp only [List.length_drop, List.length_take]; rfl)) ?_; (with_reducible refine (slices_Repeat_int_int.calls _ _ y325 a1 t328 _ ?side1 ?side2 A6.out).mono ?_); (case side1 => exact xC ((Kd.R_reads' HO327.out).2.2)); (case side2 => exact (Kd.R_reads' HO327.out).2.1); rintro e w11 ⟨v329, rfl, ho0, hb⟩; refine ⟨_, rfl, ?_⟩; have n0_ := Aside0.mk (Kd.R_elder' (xR HO_5.out) (Kd.R_base ho0) hb); have n1_ := Aside0.mk (Kd.R_elder' (xR HO327.out) (Kd.R_base ho0) hb); have n2_ := Aside0.mk (Kd.R_lower (Kd.R_new' (Kd.R_new' ho0 (Kd.R_lt (xR HO_5.out))) (Kd.R_lt (xR HO327.out))) (below_size (xB HB.out))); have n3_ := Aside0.mk (below_step (xB HB.out) hb); clear HO_5; clear HO327; clear HB; have HO_5 := n0_; have HO327 := n1_; have HO330 := n2_; have HB := n3_; clear n0_ n1_ n2_ n3_; (try clear hb); (try clear hb2); (try clear hk); (try clear hi); (try clear ho0); obtain ⟨Ao12, co12, eo12⟩ := Kd.R_slice HO_5.out; subst eo12; obtain ⟨Ao13, co13, eo13⟩ := Kd.R_slice HO330.out; subst eo13) | ((with_reducible refine gate_callee (f := 258) rfl ?_); refine goesL_ (some 14) rfl rfl Try.func258 (by kernel_rfl) rfl #[.slice Ao12 x5_1.length co12, .slice Ao13 t328.length co13] rfl (by (try simp only [List.map_toArray, List.map_cons, List.map_nil]); first | done | rfl | (simp only [List.length_drop, List.length_take]; rfl)) ?_; (with_reducible refine (impl_answer.calls k1 _ _ x5_1 _ _ t328 t331 _ ?side1 ?side2 ?side3 ?side4 A7.out).mono ?_); (case side1 => exact xC ((Kd.R_reads' HO_5.out).2.2)); (case side2 => exact (Kd.R_reads' HO_5.out).2.1); (case side3 => exact xC ((Kd.R_reads' HO330.out).2.2)); (case side4 => exact (Kd.R_reads' HO330.out).2.1); rintro e w14 ⟨v332, rfl, ho0, hb⟩; refine ⟨_, rfl, ?_⟩; have n0_ := Aside0.mk (Kd.R_elder' (xR HO_5.out) (Kd.R_base ho0) hb); have n1_ := Aside0.mk (Kd.R_elder' (xR HO327.out) (Kd.R_base ho0) hb); have n2_ := Aside0.mk (Kd.R_elder' (xR HO330.out) (Kd.R_base ho0) hb); have n3_ := Aside0.mk (Kd.R_lower (Kd.R_new' (Kd.R_new' (Kd.R_new' ho0 (Kd.R_lt (xR HO_5.out))) (Kd.R_lt (xR HO327.out))) (Kd.R_lt (xR HO330.out))) (below_size (xB HB.out))); have n4_ := Aside0.mk (below_step (xB HB.out) hb); clear HO_5; clear HO327; clear HO330; clear HB; have HO_5 := n0_; have HO327 := n1_; have HO330 := n2_; have HO333 := n3_; have HB := n4_; clear n0_ n1_ n2_ n3_ n4_; (try clear hb); (try clear hb2); (try clear hk); (try clear hi); (try clear ho0)))
   go_roundg k1
   case measure => have := HK1.out; omega
   case rel => exact ⟨(t331), (wrap64 (x8_1 + 1)), (by first | rfl | (simp; done) | (simp [*]; done)), H', ⟨by have := HK1.out; omega⟩, ⟨by (with_reducible repeat (first | apply Kd.R_alloc | apply Kd.R_drewN | apply Kd.R_drew)); exact Kd.R_mono HO333.out (fun _ hk => trivial)⟩, ⟨xB HB.out⟩⟩
/-! ### impl_ExactComb: function 126 -/
def impl_ExactComb.j0 : Nat → List Int → Int → Int → Bool → Option (List Int × Bool)
 | 0, _, _, _, _ => none
 | k + 1, x0, x1, x2, x16 => if x16 = true then (some (([] : List Int), false)) else ((impl_comb.f k x1 x2).bind fun t336 => ((impl_answer.f k t336 x0).bind fun t339 => (if 0 ≤ (x0.length : Int) then (if (x0.length : Int) ≤ (t339.length : Int) then ((impl_drop.f k (t339.take ((x0.length : Int) : Int).toNat) x2 (wrap64 (x2 - 1))).bind fun t346 => ((impl_told.f k t346).bind fun bt349 => (some (bt349.1, bt349.2)))) else (none)) else (none))))
def impl_ExactComb.f (k : Nat) (l0 : List Int) (a1 : Int) (a2 : Int) : Option (List Int × Bool) := (impl_isSignal.f k l0).bind fun t334 => (if t334 = true then ((impl_isComb.f a1 a2).bind fun t335 => (impl_ExactComb.j0 k l0 a1 a2 (!t335))) else (impl_ExactComb.j0 k l0 a1 a2 true))
theorem impl_ExactComb.mono_l : ∀ k, (∀ y0 y1 y2 y3, LeO (impl_ExactComb.j0 k y0 y1 y2 y3) (impl_ExactComb.j0 (k + 1) y0 y1 y2 y3))
 | 0 => fun _ _ _ _ r h => by simp [impl_ExactComb.j0] at h
 | k + 1 => by
  have ih0 := impl_ExactComb.mono_l k
  ·intro y0 y1 y2 y3
   unfold impl_ExactComb.j0
   repeat' first
   | (with_reducible exact ih0 _ _ _ _)
   | (with_reducible exact impl_answer.mono _ _ _)
   | (with_reducible exact impl_comb.mono _ _ _)
   | (with_reducible exact impl_drop.mono _ _ _ _)
   | (with_reducible exact impl_isSignal.mono _ _)
   | (with_reducible exact impl_told.mono _ _)
   | (with_reducible exact LeO.refl _)
   | (with_reducible exact LeO.none _)
   | (with_reducible refine LeO.ite ?_ ?_)
   | (with_reducible refine LeO.bind ?_ (fun _ => ?_))
   | exact ih0 _ _ _ _
   | exact impl_answer.mono _ _ _
   | exact impl_comb.mono _ _ _
   | exact impl_drop.mono _ _ _ _
   | exact impl_isSignal.mono _ _
   | exact impl_told.mono _ _
   | exact LeO.none _
   | refine LeO.ite ?_ ?_
   | refine LeO.bind ?_ (fun _ => ?_)
theorem impl_ExactComb.mono : ∀ a0 a1 a2 k, LeO (impl_ExactComb.f k a0 a1 a2) (impl_ExactComb.f (k + 1) a0 a1 a2) := by
 intro a0 a1 a2 k
 have ih0 := impl_ExactComb.mono_l k
 unfold impl_ExactComb.f
 repeat' first
   | (with_reducible exact ih0 _ _ _ _)
   | (with_reducible exact impl_answer.mono _ _ _)
   | (with_reducible exact impl_comb.mono _ _ _)
   | (with_reducible exact impl_drop.mono _ _ _ _)
   | (with_reducible exact impl_isSignal.mono _ _)
   | (with_reducible exact impl_told.mono _ _)
   | (with_reducible exact LeO.refl _)
   | (with_reducible exact LeO.none _)
   | (with_reducible refine LeO.ite ?_ ?_)
   | (with_reducible refine LeO.bind ?_ (fun _ => ?_))
   | exact ih0 _ _ _ _
   | exact impl_answer.mono _ _ _
   | exact impl_comb.mono _ _ _
   | exact impl_drop.mono _ _ _ _
   | exact impl_isSignal.mono _ _
   | exact impl_told.mono _ _
   | exact LeO.none _
   | refine LeO.ite ?_ ?_
   | refine LeO.bind ?_ (fun _ => ?_)
set_option maxHeartbeats 8000000 in
set_option maxRecDepth 100000 in
theorem impl_ExactComb.calls (k : Nat) (A0 : Option Addr) (c0 : Nat) (l0 : List Int) (a1 : Int) (a2 : Int) (r1 : List Int) (r2 : Bool) (w : World) (hr0 : Kd.C (Kd.int .i64) w A0 l0.length l0) (hc0 : l0.length ≤ c0) (h : impl_ExactComb.f k l0 a1 a2 = some (r1, r2)) :
  Calls Try.prog 126 #[.slice A0 l0.length c0, .int .i64 a1, .int .i64 a2] w fun e w' => ∃ v0_ : Value, e = .returned (.tuple #[v0_, .bool r2]) ∧ Kd.R (Kd.int .i64) 3 w' w.heap.size (fun _ => True) v0_ r1 ∧ Below w.heap.size w w' := by
 have HR0 := Aside0.mk hr0
 have HC0 := Aside0.mk hc0
 clear hr0 hc0
 have HB := Aside0.mk (Below.refl w.heap.size w)
 have H : ((impl_isSignal.f k l0).bind fun t334 => (if t334 = true then ((impl_isComb.f a1 a2).bind fun t335 => (impl_ExactComb.j0 k l0 a1 a2 (!t335))) else (impl_ExactComb.j0 k l0 a1 a2 true))) = some (r1, r2) := h
 clear h
 have HC4 := Aside0.mk H
 clear H
 go_enter Try.func126, Try.ntmps126
 go_upto_region 1 with (fail)
 go_cut [16] (fun v16 wc => ∃ (kq : Nat) (x16_3 : Bool), v16 = .bool x16_3 ∧ Aside0 (impl_ExactComb.j0 kq l0 a1 a2 x16_3 = some (r1, r2)) ∧ Aside0 (kq ≤ k) ∧ Aside0 (Below w.heap.size w wc))
 case first => as_aux_lemma =>
  have H := HC4.out
  clear HC4
  replace H := Option.bind_eq_some_iff.mp H
  obtain ⟨t334, A50, H⟩ := H
  (try dsimp only at H)
  have A5 := Aside0.mk A50
  clear A50
  by_cases c6 : t334 = true
  rotate_left
  ·replace c6 := Bool.eq_false_iff.mpr c6
   subst c6
   have H1 := H
   rw [if_neg (show ¬ (false = true) by decide)] at H1
   clear H
   have H := H1
   clear H1
   have H' := Aside0.mk H
   clear H
   go_wp2_with (first | ((with_reducible refine gate_callee (f := 233) rfl ?_); refine goesL_ (some 9) rfl rfl Try.func233 (by kernel_rfl) rfl #[.slice A0 l0.length c0] rfl (by (try simp only [List.map_toArray, List.map_cons, List.map_nil]); first | done | rfl | (simp only [List.length_drop, List.length_take]; rfl)) ?_; (with_reducible refine (impl_isSignal.calls k _ _ l0 false _ ?side1 ?side2 A5.out).mono ?_); (case side1 => exact xC (Kd.C_below HR0.out HB.out)); (case side2 => exact HC0.out); rintro e w' ⟨rfl, ⟨nd, rfl⟩⟩; refine ⟨_, rfl, ?_⟩))
   go_meet
   case rel => exact ⟨_, (true), (by first | rfl | (simp; done) | (simp [*]; done)), H', ⟨by first | omega | exact Nat.le_refl _⟩, ⟨xB HB.out⟩⟩
  subst c6
  have H1 := H
  rw [if_pos rfl] at H1
  clear H
  have H := H1
  clear H1
  replace H := Option.bind_eq_some_iff.mp H
  obtain ⟨t335, A70, H⟩ := H
  (try dsimp only at H)
  have A7 := Aside0.mk A70
  clear A70
  have H' := Aside0.mk H
  clear H
  go_wp2_with (first | ((with_reducible refine gate_callee (f := 233) rfl ?_); refine goesL_ (some 9) rfl rfl Try.func233 (by kernel_rfl) rfl #[.slice A0 l0.length c0] rfl (by (try simp only [List.map_toArray, List.map_cons, List.map_nil]); first | done | rfl | (simp only [List.length_drop, List.length_take]; rfl)) ?_; (with_reducible refine (impl_isSignal.calls k _ _ l0 true _ ?side1 ?side2 A5.out).mono ?_); (case side1 => exact xC (Kd.C_below HR0.out HB.out)); (case side2 => exact HC0.out); rintro e w' ⟨rfl, ⟨nd, rfl⟩⟩; refine ⟨_, rfl, ?_⟩) | (go_at_call 318; (with_reducible refine (impl_isComb.calls a1 a2 t335 _ A7.out).mono ?_); rintro e w' ⟨rfl, ⟨nd, rfl⟩⟩))
  go_meet
  case rel => exact ⟨_, (!t335), (by first | rfl | (simp; done) | (simp [*]; done)), H', ⟨by first | omega | exact Nat.le_refl _⟩, ⟨xB HB.out⟩⟩
 case rest => as_aux_lemma =>
  clear HC4
  obtain ⟨kq, x16_3, rfl, HA, HJ3, HB⟩ := hcut
  cases kq with
  | zero => exact absurd HA.out (by simp [impl_ExactComb.j0])
  | succ kj3 =>
   have H := HA.out
   clear HA
   simp only [impl_ExactComb.j0] at H
   by_cases c8 : x16_3 = true
   ·subst c8
    have H1 := H
    rw [if_pos rfl] at H1
    clear H
    have H := H1
    clear H1
    simp only [Option.some.injEq, Prod.mk.injEq] at H
    obtain ⟨rfl, rfl⟩ := H
    go_wp2
    go_ret2
    exact ⟨_, by first | rfl | (simp [errW_none, errW_some] <;> rfl) | (simp [*, errW_none, errW_some] <;> rfl), by first | exact Kd.R_nil _ _ _ _ _ | exact Kd.N_nil _ _ _ _ _ | exact Kd.V_nil _ _ _ _ _ | exact Kd.Q_nil _ _ _ _ _ | exact Kd.S_nil _ _ _ _ _, xB HB.out⟩
   replace c8 := Bool.eq_false_iff.mpr c8
   subst c8
   have H1 := H
   rw [if_neg (show ¬ (false = true) by decide)] at H1
   clear H
   have H := H1
   clear H1
   replace H := Option.bind_eq_some_iff.mp H
   obtain ⟨t336, A90, H⟩ := H
   (try dsimp only at H)
   have A9 := Aside0.mk A90
   clear A90
   replace H := Option.bind_eq_some_iff.mp H
   obtain ⟨t339, A100, H⟩ := H
   (try dsimp only at H)
   have A10 := Aside0.mk A100
   clear A100
   by_cases c11 : 0 ≤ (l0.length : Int)
   rotate_left
   ·rw [if_neg c11] at H
    exact absurd H (by simp)

   rw [if_pos c11] at H
   have c11b0 := eq_true c11
   have c11b1 : decide (0 ≤ (l0.length : Int)) = true := decide_eq_true c11
   clear c11
   by_cases c12 : (l0.length : Int) ≤ (t339.length : Int)
   rotate_left
   ·rw [if_neg c12] at H
    exact absurd H (by simp)
   rw [if_pos c12] at H
   have c12b0 := eq_true c12
   have c12b1 : decide ((l0.length : Int) ≤ (t339.length : Int)) = true := decide_eq_true c12
   clear c12
   obtain ⟨y342, hy342⟩ : ∃ y_ : List Int, y_ = (t339.take ((l0.length : Int) : Int).toNat) := ⟨_, rfl⟩
   replace H : ((impl_drop.f kj3 y342 a2 (wrap64 (a2 - 1))).bind fun t346 => ((impl_told.f kj3 t346).bind fun bt349 => (some (bt349.1, bt349.2)))) = some (r1, r2) := by first | (rw [hy342]; with_reducible exact H) | (have H2_ := (Option.bind_some _ _).symm.trans H; rw [hy342]; with_reducible exact H2_) | (have H2_ := (Option.bind_some _ _).symm.trans H; with_reducible exact H2_) | with_reducible exact H | (rw [hy342]; exact H) | exact H
   have Ny342 := Aside0.mk hy342
   clear hy342
   replace H := Option.bind_eq_some_iff.mp H
   obtain ⟨t346, A130, H⟩ := H
   (try dsimp only at H)
   have A13 := Aside0.mk A130
   clear A130
   replace H := Option.bind_eq_some_iff.mp H
   obtain ⟨⟨t349, t352⟩, A140, H⟩ := H
   (try dsimp only at H)
   have A14 := Aside0.mk A140
   clear A140
   simp only [Option.some.injEq, Prod.mk.injEq] at H
   obtain ⟨rfl, rfl⟩ := H
   go_wp2_with (first | ((with_reducible refine gate_callee (f := 324) rfl ?_); refine goesL_ (some 19) rfl rfl Try.func324 (by kernel_rfl) rfl #[.int .i64 a1, .int .i64 a2] rfl (by (try simp only [List.map_toArray, List.map_cons, List.map_nil]); first | done | rfl | (simp only [List.length_drop, List.length_take]; rfl)) ?_; (with_reducible refine (impl_comb.calls kj3 a1 a2 t336 _ A9.out).mono ?_); rintro e w15 ⟨v337, rfl, ho0, hb⟩; refine ⟨_, rfl, ?_⟩; have n0_ := Aside0.mk (Kd.R_lower ho0 (below_size (xB HB.out))); have n1_ := Aside0.mk (below_step (xB HB.out) hb); clear HB; have HO338 := n0_; have HB := n1_; clear n0_ n1_; (try clear hb); (try clear hb2); (try clear hk); (try clear hi); (try clear ho0); obtain ⟨Ao16, co16, eo16⟩ := Kd.R_slice HO338.out; subst eo16) | ((with_reducible refine gate_callee (f := 258) rfl ?_); refine goesL_ (some 21) rfl rfl Try.func258 (by kernel_rfl) rfl #[.slice Ao16 t336.length co16, .slice A0 l0.length c0] rfl (by (try simp only [List.map_toArray, List.map_cons, List.map_nil]); first | done | rfl | (simp only [List.length_drop, List.length_take]; rfl)) ?_; (with_reducible refine (impl_answer.calls kj3 _ _ t336 _ _ l0 t339 _ ?side1 ?side2 ?side3 ?side4 A10.out).mono ?_); (case side1 => exact xC ((Kd.R_reads' HO338.out).2.2)); (case side2 => exact (Kd.R_reads' HO338.out).2.1); (case side3 => exact xC (Kd.C_below HR0.out HB.out)); (case side4 => exact HC0.out); rintro e w17 ⟨v340, rfl, ho0, hb⟩; refine ⟨_, rfl, ?_⟩; have n0_ := Aside0.mk (Kd.R_elder' (xR HO338.out) (Kd.R_base ho0) hb); have n1_ := Aside0.mk (Kd.R_lower (Kd.R_new' ho0 (Kd.R_lt (xR HO338.out))) (below_size (xB HB.out))); have n2_ := Aside0.mk (below_step (xB HB.out) hb); clear HO338; clear HB; have HO338 := n0_; have HO341 := n1_; have HB := n2_; clear n0_ n1_ n2_; (try clear hb); (try clear hb2); (try clear hk); (try clear hi); (try clear ho0); obtain ⟨Ao19, co19, eo19⟩ := Kd.R_slice HO341.out; subst eo19; have q18 : ((l0.length : Int) : Int) ≤ ((t339.length : Int) : Int) := of_decide_eq_true (by first | (with_reducible assumption) | assumption); obtain ⟨i018, hi018, _, hsz18, _⟩ := info_parts info3; have hroom18 : t339.length ≤ co19 := (Kd.R_reads' HO341.out).2.1; have hC18 : Kd.C (Kd.int .i64) _ Ao19 t339.length t339 := (Kd.R_reads' HO341.out).2.2; have hcut18 := cut_to (P := Try.prog) 24 3 .i64 Try.underlying24 hi018 Ao19 t339.length co19 (l0.length : Int) (of_decide_eq_true (by first | (with_reducible assumption) | assumption)) q18 hroom18; have hr18 := Kd.C_take (m := ((l0.length : Int) : Int).toNat) hC18 (by omega); have hy18 : y342.length = ((l0.length : Int) : Int).toNat := (by rw [Ny342.out, List.length_take]; omega); rw [← Ny342.out] at hr18; rw [← hy18] at hcut18; have HR345 := Aside0.mk hr18; have HC345 := Aside0.mk (show y342.length ≤ co19 from by omega); clear hr18 hC18 hroom18 hi018 hsz18; have KY18 := Aside0.mk hy18; clear hy18; have KL18 := Aside0.mk (show ((l0.length : Int) : Int).toNat ≤ t339.length from by omega); replace q18 := eq_true q18) | ((with_reducible refine gate_callee (f := 323) rfl ?_); refine goesL_ (some 28) rfl rfl Try.func323 (by kernel_rfl) rfl #[.slice Ao19 y342.length co19, .int .i64 a2, .int .i64 (wrap64 (a2 - 1))] rfl (by (try simp only [List.map_toArray, List.map_cons, List.map_nil]); first | done | rfl | (simp only [List.length_drop, List.length_take]; rfl)) ?_; (with_reducible refine (impl_drop.calls kj3 _ _ y342 a2 (wrap64 (a2 - 1)) t346 _ ?side1 ?side2 A13.out).mono ?_); (case side1 => repeat (first | exact (by repeat (first | (with_reducible exact HR345.out) | (with_reducible refine Kd.C_alloc ?_ _) | (with_reducible refine Kd.C_drewN ?_ _) | (with_reducible refine Kd.C_drew ?_) | exact HR345.out)) | (with_reducible refine Kd.C_alloc ?_ _) | (with_reducible refine Kd.C_drewN ?_ _) | (with_reducible refine Kd.C_drew ?_))); (case side2 => exact HC345.out); rintro e w20 ⟨v347, rfl, ho0, hb⟩; refine ⟨_, rfl, ?_⟩; have n0_ := Aside0.mk (Kd.R_elder' (xR HO338.out) (Kd.R_base ho0) hb); have n1_ := Aside0.mk (Kd.R_elder' (xR HO341.out) (Kd.R_base ho0) hb); have n2_ := Aside0.mk (Kd.R_lower (Kd.R_new' (Kd.R_new' ho0 (Kd.R_lt (xR HO338.out))) (Kd.R_lt (xR HO341.out))) (below_size (xB HB.out))); have n3_ := Aside0.mk (Kd.C_below (by repeat (first | (with_reducible exact HR345.out) | (with_reducible refine Kd.C_alloc ?_ _) | (with_reducible refine Kd.C_drewN ?_ _) | (with_reducible refine Kd.C_drew ?_) | exact HR345.out)) hb); have n4_ := Aside0.mk (below_step (xB HB.out) hb); clear HO338; clear HO341; clear HR345; clear HB; have HO338 := n0_; have HO341 := n1_; have HO348 := n2_; have HR345 := n3_; have HB := n4_; clear n0_ n1_ n2_ n3_ n4_; (try clear hb); (try clear hb2); (try clear hk); (try clear hi); (try clear ho0); obtain ⟨Ao21, co21, eo21⟩ := Kd.R_slice HO348.out; subst eo21) | ((with_reducible refine gate_callee (f := 239) rfl ?_); refine goesL_ (some 29) rfl rfl Try.func239 (by kernel_rfl) rfl #[.slice Ao21 t346.length co21] rfl (by (try simp only [List.map_toArray, List.map_cons, List.map_nil]); first | done | rfl | (simp only [List.length_drop, List.length_take]; rfl)) ?_; (with_reducible refine (impl_told.calls kj3 (fun k_ => some k_ = (.slice Ao21 t346.length co21 : Value).ownBlock) (.slice Ao21 t346.length co21) t346 t349 t352 w _ ?side1 ?side2 A14.out).mono ?_); (case side1 => repeat (first | (with_reducible first | exact HB.out | apply below_alloc | apply pw_below_drewN | apply below_drew1) | exact HB.out)); (case side2 => exact Kd.R_tight rfl HO348.out); rintro e w22 ⟨v350, rfl, ho0, hb, hkp⟩; refine ⟨_, rfl, ?_⟩; have n0_ := Aside0.mk (Kd.R_mono (ok' := fun k_ => some k_ ≠ (.slice Ao19 t339.length co19 : Value).ownBlock ∧ some k_ ≠ (v350 : Value).ownBlock) (Kd.R_keptB (HO338.out) hkp (fun k_ hk_ hs_ => (hk_.2) hs_)) (fun k_ hk_ => ⟨hk_.1.1.2, fun e_ => Or.elim (ho0.1 k_ e_.symm) (fun hs_ => hk_.2.1 hs_) (fun hn_ => Nat.not_le.2 hk_.2.2 hn_)⟩)); have n1_ := Aside0.mk (Kd.R_mono (ok' := fun k_ => some k_ ≠ (.slice Ao16 t336.length co16 : Value).ownBlock ∧ some k_ ≠ (v350 : Value).ownBlock) (Kd.R_keptB (HO341.out) hkp (fun k_ hk_ hs_ => (hk_.2) hs_)) (fun k_ hk_ => ⟨hk_.1.1.2, fun e_ => Or.elim (ho0.1 k_ e_.symm) (fun hs_ => hk_.2.1 hs_) (fun hn_ => Nat.not_le.2 hk_.2.2 hn_)⟩)); have n2_ := Aside0.mk (Kd.R_mono (ok' := fun k_ => some k_ ≠ (.slice Ao16 t336.length co16 : Value).ownBlock ∧ some k_ ≠ (.slice Ao19 t339.length co19 : Value).ownBlock) ho0 (fun k_ hk_ => ⟨Or.elim hk_ (fun hs_ => fun e_ => (((HO338.out).1 k_ e_.symm).2) hs_) (fun hn_ => (Kd.fresh' (Kd.R_lt (xR HO338.out)) k_ hn_)), Or.elim hk_ (fun hs_ => fun e_ => (((HO341.out).1 k_ e_.symm).2) hs_) (fun hn_ => (Kd.fresh' (Kd.R_lt (xR HO341.out)) k_ hn_))⟩)); have n3_ := Aside0.mk (hb); clear HO338; clear HO341; clear HB; clear HO348; have HO338 := n0_; have HO341 := n1_; have HO351 := n2_; have HB := n3_; clear n0_ n1_ n2_ n3_; (try clear hb); (try clear hkp); (try clear ho0)))
   go_ret2
   exact ⟨_, by first | rfl | (simp [errW_none, errW_some] <;> rfl) | (simp [*, errW_none, errW_some] <;> rfl), by (with_reducible repeat (first | apply Kd.R_alloc | apply Kd.R_drewN | apply Kd.R_drew)); exact Kd.R_mono HO351.out (fun _ hk => trivial), xB HB.out⟩
/-! ### spec_wdIf: function 219 -/
def spec_wdIf.f (k : Nat) (l0 : List Int) : Option (List Int × Bool) := (spec_wdSignal.f k l0).bind fun t353 => (if t353 = true then (some (l0, true)) else (some (([] : List Int), false)))
theorem spec_wdIf.mono : ∀ a0 k, LeO (spec_wdIf.f k a0) (spec_wdIf.f (k + 1) a0) := by
 intro a0 k
 unfold spec_wdIf.f
 repeat' first
   | (with_reducible exact spec_wdSignal.mono _ _)
   | (with_reducible exact LeO.refl _)
   | (with_reducible exact LeO.none _)
   | (with_reducible refine LeO.ite ?_ ?_)
   | (with_reducible refine LeO.bind ?_ (fun _ => ?_))
   | exact spec_wdSignal.mono _ _
   | exact LeO.none _
   | refine LeO.ite ?_ ?_
   | refine LeO.bind ?_ (fun _ => ?_)
set_option maxHeartbeats 8000000 in
set_option maxRecDepth 100000 in
theorem spec_wdIf.calls (k : Nat) (P0_ : Nat → Prop) (u9000_ : Value) (l0 : List Int) (r1 : List Int) (r2 : Bool) (w0 w : World) (hB : Below w0.heap.size w0 w) (ho0 : Kd.R (Kd.int .i64) 3 w w0.heap.size P0_ u9000_ l0) (h : spec_wdIf.f k l0 = some (r1, r2)) :
  Calls Try.prog 219 #[u9000_] w fun e w' => ∃ v0_ : Value, e = .returned (.tuple #[v0_, .bool r2]) ∧ Kd.R (Kd.int .i64) 3 w' w0.heap.size (fun k_ => (P0_ k_ ∨ w.heap.size ≤ k_)) v0_ r1 ∧ Below w0.heap.size w0 w' ∧ Kept w w' (fun k_ => P0_ k_) := by
 have HO0 := Aside0.mk (show Kd.R (Kd.int .i64) 3 w w0.heap.size (fun k_ => (P0_ k_ ∨ w.heap.size ≤ k_)) u9000_ l0 from Kd.R_mono ho0 (fun k_ hk => (.inl hk)))
 have HK := Aside0.mk (Kept.refl w (fun k_ => P0_ k_))
 have HW0 := Aside0.mk hB.size
 have HB := Aside0.mk hB
 clear hB
 have H : ((spec_wdSignal.f k l0).bind fun t353 => (if t353 = true then (some (l0, true)) else (some (([] : List Int), false)))) = some (r1, r2) := h
 clear h
 replace H := Option.bind_eq_some_iff.mp H
 obtain ⟨t353, A20, H⟩ := H
 (try dsimp only at H)
 have A2 := Aside0.mk A20
 clear A20
 by_cases c3 : t353 = true
 ·subst c3
  have H1 := H
  rw [if_pos rfl] at H1
  clear H
  have H := H1
  clear H1
  simp only [Option.some.injEq, Prod.mk.injEq] at H
  obtain ⟨rfl, rfl⟩ := H
  obtain ⟨Ao4, co4, eo4⟩ := Kd.R_slice HO0.out
  subst eo4
  go_enter Try.func219, Try.ntmps219
  go_wp2_with (first | ((with_reducible refine gate_callee (f := 236) rfl ?_); refine goesL_ (some 5) rfl rfl Try.func236 (by kernel_rfl) rfl #[.slice Ao4 l0.length co4] rfl (by (try simp only [List.map_toArray, List.map_cons, List.map_nil]); first | done | rfl | (simp only [List.length_drop, List.length_take]; rfl)) ?_; (with_reducible refine (spec_wdSignal.calls k _ _ l0 true _ ?side1 ?side2 A2.out).mono ?_); (case side1 => exact xC ((Kd.R_reads' HO0.out).2.2)); (case side2 => exact (Kd.R_reads' HO0.out).2.1); rintro e w' ⟨rfl, ⟨nd, rfl⟩⟩; refine ⟨_, rfl, ?_⟩))
  go_ret2
  exact ⟨_, by first | rfl | (simp [errW_none, errW_some] <;> rfl) | (simp [*, errW_none, errW_some] <;> rfl), xR HO0.out, xB HB.out, by repeat (first | (with_reducible first | exact HK.out | apply Kept.alloc | apply Kept.drewN | apply Kept.drew) | exact HK.out)⟩
 replace c3 := Bool.eq_false_iff.mpr c3
 subst c3
 have H1 := H
 rw [if_neg (show ¬ (false = true) by decide)] at H1
 clear H
 have H := H1
 clear H1
 simp only [Option.some.injEq, Prod.mk.injEq] at H
 obtain ⟨rfl, rfl⟩ := H
 obtain ⟨Ao5, co5, eo5⟩ := Kd.R_slice HO0.out
 subst eo5
 go_enter Try.func219, Try.ntmps219
 go_wp2_with (first | ((with_reducible refine gate_callee (f := 236) rfl ?_); refine goesL_ (some 5) rfl rfl Try.func236 (by kernel_rfl) rfl #[.slice Ao5 l0.length co5] rfl (by (try simp only [List.map_toArray, List.map_cons, List.map_nil]); first | done | rfl | (simp only [List.length_drop, List.length_take]; rfl)) ?_; (with_reducible refine (spec_wdSignal.calls k _ _ l0 false _ ?side1 ?side2 A2.out).mono ?_); (case side1 => exact xC ((Kd.R_reads' HO0.out).2.2)); (case side2 => exact (Kd.R_reads' HO0.out).2.1); rintro e w' ⟨rfl, ⟨nd, rfl⟩⟩; refine ⟨_, rfl, ?_⟩))
 go_ret2
 exact ⟨_, by first | rfl | (simp [errW_none, errW_some] <;> rfl) | (simp [*, errW_none, errW_some] <;> rfl), by first | exact Kd.R_nil _ _ _ _ _ | exact Kd.N_nil _ _ _ _ _ | exact Kd.V_nil _ _ _ _ _ | exact Kd.Q_nil _ _ _ _ _ | exact Kd.S_nil _ _ _ _ _, xB HB.out, by repeat (first | (with_reducible first | exact HK.out | apply Kept.alloc | apply Kept.drewN | apply Kept.drew) | exact HK.out)⟩

end Go.Proofs.Ytjplcongellcmaa.PFnCombsWrap
