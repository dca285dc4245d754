/- What each Go function that the statement FnPhasesWork reaches answers, proved call by call. No condition beyond those that the theorems print. (Written by wip/tools/xprint.py of this repo, over the kit's print.) -/
import Derived.Test.YtjplcongellcmaaPFnPhasesWorkx0
import Derived.Test.YtjplcongellcmaaPFnPhasesWorkx1
import Derived.Test.YtjplcongellcmaaPFnPhasesWorkx4
import Derived.Test.YtjplcongellcmaaPFnPhasesWorkx5
namespace Go.Proofs.Ytjplcongellcmaa.PFnPhasesWork
open Go.RowKit Go.Proofs.YtjplcongellcmaaW.PrintWords Go.Proofs.YtjplcongellcmaaW.PrintLast Go.Proofs.YtjplcongellcmaaW.PrintMore
attribute [local go_sem] max2_int min2_int max_two min_two max_three min_three max_four min_four   -- for this text's walks alone
set_option linter.unusedVariables false
set_option linter.unusedSimpArgs false

/-! ### spec_weAnswer: function 274 -/
mutual
def spec_weAnswer.l0 : Nat → List Int → List Int → List Int → Int → Int → Option (List Int)
 | 0, _, _, _, _, _ => none
 | k + 1, x1, x5, x20, x21, x22 => if x22 < x21 then (if 0 ≤ x22 then (if x22 < (x20.length : Int) then (spec_weAnswer.l1 k x1 x5 x22 (rd x20 x22) x20 x21 x22 x1 (x1.length : Int) 0) else (none)) else (none)) else (some x5)
def spec_weAnswer.l1 : Nat → List Int → List Int → Int → Int → List Int → Int → Int → List Int → Int → Int → Option (List Int)
 | 0, _, _, _, _, _, _, _, _, _, _ => none
 | k + 1, x1, x5, x6, x7, x20, x21, x22, x27, x28, x29 => if x29 < x28 then (if 0 ≤ x29 then (if x29 < (x27.length : Int) then (if 0 ≤ (wrap64 (x6 + x29)) then (if (wrap64 (x6 + x29)) < (x5.length : Int) then (spec_weAnswer.l1 k x1 (x5.set ((wrap64 (x6 + x29)) : Int).toNat (wrap64 ((rd x5 (wrap64 (x6 + x29))) + (wrap64 (x7 * (rd x27 x29)))))) x6 x7 x20 x21 x22 x27 x28 (wrap64 (x29 + 1))) else (none)) else (none)) else (none)) else (none)) else (spec_weAnswer.l0 k x1 x5 x20 x21 (wrap64 (x22 + 1)))
end
def spec_weAnswer.f (k : Nat) (l0 : List Int) (l1 : List Int) : Option (List Int) := if (l1.length : Int) = 0 then (some ([] : List Int)) else (if 0 ≤ (wrap64 ((wrap64 ((l0.length : Int) + (l1.length : Int))) - 1)) then (if (wrap64 ((wrap64 ((l0.length : Int) + (l1.length : Int))) - 1) : Int).toNat ≤ 35184372088832 then (spec_weAnswer.l0 k l1 (List.replicate (wrap64 ((wrap64 ((l0.length : Int) + (l1.length : Int))) - 1) : Int).toNat 0) l0 (l0.length : Int) 0) else (none)) else (none))
theorem spec_weAnswer.mono_l : ∀ k, (∀ y0 y1 y2 y3 y4, LeO (spec_weAnswer.l0 k y0 y1 y2 y3 y4) (spec_weAnswer.l0 (k + 1) y0 y1 y2 y3 y4)) ∧ (∀ y0 y1 y2 y3 y4 y5 y6 y7 y8 y9, LeO (spec_weAnswer.l1 k y0 y1 y2 y3 y4 y5 y6 y7 y8 y9) (spec_weAnswer.l1 (k + 1) y0 y1 y2 y3 y4 y5 y6 y7 y8 y9))
 | 0 => ⟨fun _ _ _ _ _ r h => by simp [spec_weAnswer.l0] at h, fun _ _ _ _ _ _ _ _ _ _ r h => by simp [spec_weAnswer.l1] at h⟩
 | k + 1 => by
  obtain ⟨ih0, ih1⟩ := spec_weAnswer.mono_l k
  refine ⟨?_, ?_⟩ <;> intros
  ·unfold spec_weAnswer.l0; exact xM
  ·unfold spec_weAnswer.l1; exact xM
theorem spec_weAnswer.mono : ∀ a0 a1 k, LeO (spec_weAnswer.f k a0 a1) (spec_weAnswer.f (k + 1) a0 a1) := by
 intro a0 a1 k
 obtain ⟨ih0, ih1⟩ := spec_weAnswer.mono_l k
 unfold spec_weAnswer.f
 exact xM
set_option maxHeartbeats 8000000 in
set_option maxRecDepth 100000 in
theorem spec_weAnswer.calls (k : Nat) (A0 : Option Addr) (c0 : Nat) (l0 : List Int) (A1 : Option Addr) (c1 : Nat) (l1 : List Int) (r : List Int) (w : World) (hr0 : Kd.C (Kd.int .i64) w A0 l0.length l0) (hc0 : l0.length ≤ c0) (hr1 : Kd.C (Kd.int .i64) w A1 l1.length l1) (hc1 : l1.length ≤ c1) (h : spec_weAnswer.f k l0 l1 = some r) :
  Calls Try.prog 274 #[.slice A0 l0.length c0, .slice A1 l1.length c1] w fun e w' => ∃ v0_ : Value, e = .returned (v0_) ∧ Kd.R (Kd.int .i64) 3 w' w.heap.size (fun _ => True) v0_ r ∧ Below w.heap.size w w' := by
 have HR0 := Aside0.mk hr0
 have HC0 := Aside0.mk hc0
 clear hr0 hc0
 have HR1 := Aside0.mk hr1
 have HC1 := Aside0.mk hc1
 clear hr1 hc1
 have HB := Aside0.mk (Below.refl w.heap.size w)
 have H : (if (l1.length : Int) = 0 then (some ([] : List Int)) else (if 0 ≤ (wrap64 ((wrap64 ((l0.length : Int) + (l1.length : Int))) - 1)) then (if (wrap64 ((wrap64 ((l0.length : Int) + (l1.length : Int))) - 1) : Int).toNat ≤ 35184372088832 then (spec_weAnswer.l0 k l1 (List.replicate (wrap64 ((wrap64 ((l0.length : Int) + (l1.length : Int))) - 1) : Int).toNat 0) l0 (l0.length : Int) 0) else (none)) else (none))) = some r := h
 clear h
 by_cases c3 : (l1.length : Int) = 0
 ·rw [if_pos c3] at H
  have c3b0 : ((l1.length : Int) == 0) = true := beq_iff_eq.mpr c3
  have c3b1 : ((l1.length : Int) != 0) = false := bne_eq_false_iff_eq.mpr c3
  clear c3
  obtain rfl := Option.some.inj H
  go_enter Try.func274, Try.ntmps274
  go_wp2
  go_ret
  exact ⟨_, by first | rfl | (simp [errW_none, errW_some] <;> rfl) | (simp [*, errW_none, errW_some] <;> rfl), by first | exact Kd.R_nil _ _ _ _ _ | exact Kd.N_nil _ _ _ _ _ | exact Kd.V_nil _ _ _ _ _ | exact Kd.Q_nil _ _ _ _ _ | exact Kd.S_nil _ _ _ _ _, xB HB.out⟩
 rw [if_neg c3] at H
 have c3b0 : ((l1.length : Int) == 0) = false := beq_eq_false_iff_ne.mpr c3
 have c3b1 : ((l1.length : Int) != 0) = true := bne_iff_ne.mpr c3
 have c3b2 : ¬ (l1 = []) := fun h_ => c3 (by rw [h_]; rfl)
 obtain ⟨ji4, hji4⟩ : ∃ j_ : Int, (wrap64 ((wrap64 ((l0.length : Int) + (l1.length : Int))) - 1)) = j_ := ⟨_, rfl⟩
 replace H : (if 0 ≤ (ji4) then (if (ji4 : Int).toNat ≤ 35184372088832 then (spec_weAnswer.l0 k l1 (List.replicate (ji4 : Int).toNat 0) l0 (l0.length : Int) 0) else (none)) else (none)) = some r := by first | (rw [hji4] at H; exact H) | (simp only [hji4] at H ⊢; exact H)
 have hji4w : (IntKind.i64.wrap ((wrap64 ((l0.length : Int) + (l1.length : Int))) - 1)) = ji4 := (i64_w _).trans hji4
 by_cases c5 : 0 ≤ (ji4)
 rotate_left
 ·rw [if_neg c5] at H
  exact absurd H (by simp)

 rw [if_pos c5] at H
 have c5b0 := eq_true c5
 have c5b1 : decide (0 ≤ (ji4)) = true := decide_eq_true c5
 clear c5
 by_cases c6 : (ji4 : Int).toNat ≤ 35184372088832
 rotate_left
 ·rw [if_neg c6] at H
  exact absurd H (by simp)
 rw [if_pos c6] at H
 have c6b0 := eq_true c6
 have c6b1 : decide ((ji4 : Int).toNat ≤ 35184372088832) = true := decide_eq_true c6
 clear c6
 obtain ⟨y340, hy340⟩ : ∃ y_ : List Int, y_ = (List.replicate (ji4 : Int).toNat 0) := ⟨_, rfl⟩
 replace H : (spec_weAnswer.l0 k l1 y340 l0 (l0.length : Int) 0) = some r := by first | (rw [hy340]; with_reducible exact H) | (have H2_ := (Option.bind_some _ _).symm.trans H; rw [hy340]; with_reducible exact H2_) | (have H2_ := (Option.bind_some _ _).symm.trans H; with_reducible exact H2_) | with_reducible exact H | (rw [hy340]; exact H) | exact H
 have Ny340 := Aside0.mk hy340
 clear hy340
 have H' := Aside0.mk H
 clear H
 go_enter Try.func274, Try.ntmps274
 go_wp2_with (first | ((with_reducible refine gate_dst (N := 19) rfl ?_); refine Kd.R_make (Kd.int .i64) _ 3 rfl (N := 19) rfl 24 _ _ rfl ji4 rfl rfl Try.underlying24 (.int .i64 0) 8 info3 rfl (by decide) (by omega) 0 (ok := fun _ => True) (okp := fun _ => True) rfl (fun _ hk => hk) trivial (of_decide_eq_true (by first | (with_reducible assumption) | assumption)) (Nat.le_trans (Nat.mul_le_mul_right _ (of_decide_eq_true (by first | (with_reducible assumption) | assumption) : ji4.toNat ≤ 35184372088832)) (by omega)) (Below.refl _ _) (Nat.le_refl _) ?_; intro v341 w7 ho8 hb hg_ hnew_; clear hg_ hnew_; (first | rw [← Ny340.out] at ho8 | (simp only [Int.reduceToNat] at ho8; rw [← Ny340.out] at ho8)); have HO342 := Aside0.mk (Kd.R_lower ho8 (below_size (xB HB.out))); replace HB := Aside0.mk (below_step (xB HB.out) hb); clear hb ho8))
 go_loopg [22] k (fun kq v22 w' => ∃ (x5_1 : List Int) (x22_1 : Int), v22 = .int .i64 x22_1 ∧ Aside0 (spec_weAnswer.l0 kq l1 x5_1 l0 (l0.length : Int) x22_1 = some r) ∧ Aside0 (kq ≤ k) ∧ Aside0 (Kd.R (Kd.int .i64) 3 w' w.heap.size (fun _ => True) v341 x5_1) ∧ Aside0 (Below w.heap.size w w'))
 case atStart => exact ⟨(y340), (0), (by first | rfl | (simp; done) | (simp [*]; done)), H', ⟨Nat.le_refl _⟩, ⟨xR HO342.out⟩, ⟨xB HB.out⟩⟩
 case round =>
  clear H'
  try clear c1
  try clear c3
  try clear c3b0
  try clear c3b1
  try clear c3b2
  try clear c5b0
  try clear c5b1
  try clear c6b0
  try clear c6b1
  obtain ⟨x5_1, x22_1, rfl, HA, HK1, HO_5, HB⟩ := hrel
  cases gk with
  | zero => exact absurd HA.out (by simp [spec_weAnswer.l0])
  | succ k1 =>
   have H := HA.out
   clear HA
   simp only [spec_weAnswer.l0] at H
   by_cases c9 : x22_1 < (l0.length : Int)
   rotate_left
   ·rw [if_neg c9] at H
    have c9b0 : decide (x22_1 < (l0.length : Int)) = false := decide_eq_false c9
    clear c9
    obtain rfl := Option.some.inj H
    go_wp2
    go_ret
    exact ⟨_, by first | rfl | (simp [errW_none, errW_some] <;> rfl) | (simp only [← hji4]; first | rfl | (simp [errW_none, errW_some] <;> rfl)) | (simp [*, errW_none, errW_some] <;> rfl), xR HO_5.out, xB HB.out⟩
   rw [if_pos c9] at H
   have c9b0 : decide (x22_1 < (l0.length : Int)) = true := decide_eq_true c9
   clear c9
   by_cases c10 : 0 ≤ x22_1
   rotate_left
   ·rw [if_neg c10] at H
    exact absurd H (by simp)
   rw [if_pos c10] at H
   have c10b0 : decide (0 ≤ x22_1) = true := decide_eq_true c10
   clear c10
   by_cases c11 : x22_1 < (l0.length : Int)
   rotate_left
   ·rw [if_neg c11] at H
    exact absurd H (by simp)
   rw [if_pos c11] at H
   have c11b0 : decide (x22_1 < (l0.length : Int)) = true := decide_eq_true c11
   clear c11
   have H' := Aside0.mk H
   clear H
   have p343 : 0 ≤ (x22_1 : Int) := of_decide_eq_true (by first | (with_reducible assumption) | assumption)
   have q343 : x22_1 < (l0.length : Int) := of_decide_eq_true (by first | (with_reducible assumption) | assumption)
   obtain ⟨ad343, e343, hx343_0⟩ := Kd.at_int HR0.out x22_1 p343 q343
   cases e343
   replace hx343_0 := (HB.out.cell (World.block_lt_of_cell? w _ hx343_0)).trans hx343_0
   replace p343 := eq_true p343
   replace q343 := eq_true q343
   go_wp2
   go_loopg [29] k1 (fun kq v29 w' => ∃ (x5_2 : List Int) (x29_2 : Int), v29 = .int .i64 x29_2 ∧ Aside0 (spec_weAnswer.l1 kq l1 x5_2 x22_1 (rd l0 x22_1) l0 (l0.length : Int) x22_1 l1 (l1.length : Int) x29_2 = some r) ∧ Aside0 (kq ≤ k1) ∧ Aside0 (Kd.R (Kd.int .i64) 3 w' w.heap.size (fun _ => True) v341 x5_2) ∧ Aside0 (Below w.heap.size w w'))
   case atStart => exact ⟨(x5_1), (0), (by first | rfl | (simp; done) | (simp [*]; done)), H', ⟨Nat.le_refl _⟩, ⟨xR HO_5.out⟩, ⟨xB HB.out⟩⟩
   case round =>
    clear H'
    try clear c9b0
    try clear c10b0
    try clear c11b0
    try clear hx343_0
    try clear p343
    try clear q343
    obtain ⟨x5_2, x29_2, rfl, HA, HK2, HO_5, HB⟩ := hrel
    cases gk with
    | zero => exact absurd HA.out (by simp [spec_weAnswer.l1])
    | succ k2 =>
     have H := HA.out
     clear HA
     simp only [spec_weAnswer.l1] at H
     by_cases c12 : x29_2 < (l1.length : Int)
     rotate_left
     ·rw [if_neg c12] at H
      have c12b0 : decide (x29_2 < (l1.length : Int)) = false := decide_eq_false c12
      clear c12
      have H' := Aside0.mk H
      clear H
      go_wp2
      go_roundg k2
      case measure => have := HK1.out; have := HK2.out; omega
      case rel => exact ⟨(x5_2), (wrap64 (x22_1 + 1)), (by first | rfl | (simp; done) | (simp [*]; done)), H', ⟨by have := HK1.out; have := HK2.out; omega⟩, ⟨xR HO_5.out⟩, ⟨xB HB.out⟩⟩
     rw [if_pos c12] at H
     have c12b0 : decide (x29_2 < (l1.length : Int)) = true := decide_eq_true c12
     clear c12
     by_cases c13 : 0 ≤ x29_2
     rotate_left
     ·rw [if_neg c13] at H
      exact absurd H (by simp)
     rw [if_pos c13] at H
     have c13b0 : decide (0 ≤ x29_2) = true := decide_eq_true c13
     clear c13
     by_cases c14 : x29_2 < (l1.length : Int)
     rotate_left
     ·rw [if_neg c14] at H
      exact absurd H (by simp)
     rw [if_pos c14] at H
     have c14b0 : decide (x29_2 < (l1.length : Int)) = true := decide_eq_true c14
     clear c14
     obtain ⟨ji15, hji15⟩ : ∃ j_ : Int, (wrap64 (x22_1 + x29_2)) = j_ := ⟨_, rfl⟩
     replace H : (if 0 ≤ (ji15) then (if (ji15) < (x5_2.length : Int) then (spec_weAnswer.l1 k2 l1 (x5_2.set ((ji15) : Int).toNat (wrap64 ((rd x5_2 (ji15)) + (wrap64 ((rd l0 x22_1) * (rd l1 x29_2)))))) x22_1 (rd l0 x22_1) l0 (l0.length : Int) x22_1 l1 (l1.length : Int) (wrap64 (x29_2 + 1))) else (none)) else (none)) = some r := by first | (rw [hji15] at H; exact H) | (simp only [hji15] at H ⊢; exact H)
     have hji15w : (IntKind.i64.wrap (x22_1 + x29_2)) = ji15 := (i64_w _).trans hji15
     by_cases c16 : 0 ≤ (ji15)
     rotate_left
     ·rw [if_neg c16] at H
      exact absurd H (by simp)
     rw [if_pos c16] at H
     have c16b0 : decide (0 ≤ (ji15)) = true := decide_eq_true c16
     clear c16
     by_cases c17 : (ji15) < (x5_2.length : Int)
     rotate_left
     ·rw [if_neg c17] at H
      exact absurd H (by simp)
     rw [if_pos c17] at H
     have c17b0 : decide ((ji15) < (x5_2.length : Int)) = true := decide_eq_true c17
     clear c17
     obtain ⟨y346, hy346⟩ : ∃ y_ : List Int, y_ = (x5_2.set ((ji15) : Int).toNat (wrap64 ((rd x5_2 (ji15)) + (wrap64 ((rd l0 x22_1) * (rd l1 x29_2)))))) := ⟨_, rfl⟩
     replace H : (spec_weAnswer.l1 k2 l1 y346 x22_1 (rd l0 x22_1) l0 (l0.length : Int) x22_1 l1 (l1.length : Int) (wrap64 (x29_2 + 1))) = some r := by first | (rw [hy346]; with_reducible exact H) | (have H2_ := (Option.bind_some _ _).symm.trans H; rw [hy346]; with_reducible exact H2_) | (have H2_ := (Option.bind_some _ _).symm.trans H; with_reducible exact H2_) | with_reducible exact H | (rw [hy346]; exact H) | exact H
     have Ny346 := Aside0.mk hy346
     clear hy346
     have H' := Aside0.mk H
     clear H
     have p344 : 0 ≤ (x29_2 : Int) := of_decide_eq_true (by first | (with_reducible assumption) | assumption)
     have q344 : x29_2 < (l1.length : Int) := of_decide_eq_true (by first | (with_reducible assumption) | assumption)
     obtain ⟨ad344, e344, hx344_0⟩ := Kd.at_int HR1.out x29_2 p344 q344
     cases e344
     replace hx344_0 := (HB.out.cell (World.block_lt_of_cell? w _ hx344_0)).trans hx344_0
     replace p344 := eq_true p344
     replace q344 := eq_true q344
     obtain ⟨Ao19, co19, eo19⟩ := Kd.R_slice HO_5.out
     subst eo19
     have p345 : 0 ≤ ((ji15) : Int) := of_decide_eq_true (by first | (with_reducible assumption) | assumption | (rw [← hji15]; first | (with_reducible assumption) | assumption))
     have q345 : (ji15) < (x5_2.length : Int) := of_decide_eq_true (by first | (with_reducible assumption) | assumption | (rw [← hji15]; first | (with_reducible assumption) | assumption))
     obtain ⟨ad345, e345, hx345_0⟩ := Kd.at_int (Kd.R_reads' HO_5.out).2.2 (ji15) p345 q345
     cases e345
     replace p345 := eq_true p345
     replace q345 := eq_true q345
     have p18 : 0 ≤ ((ji15) : Int) := of_decide_eq_true (by first | (with_reducible assumption) | assumption | (rw [← hji15]; first | (with_reducible assumption) | assumption))
     have q18 : ((ji15) : Int) < ((x5_2.length : Int) : Int) := of_decide_eq_true (by first | (with_reducible assumption) | assumption | (rw [← hji15]; first | (with_reducible assumption) | assumption))
     obtain ⟨go18, co18, eo18, gb18, gl18, cl18, HG18⟩ := Kd.R_form HO_5.out (by omega)
     (first | cases eo18 | (injection eo18 with ea_ en_ ec_; (first | subst ea_ | (injection ea_ with ea_; subst ea_)); subst ec_; clear en_))
     have GB18 := Aside0.mk gb18
     have GG18 := Aside0.mk HG18
     clear gb18 gl18 HG18
     (first | simp only [add_plain] at hx345_0 | skip)
     obtain ⟨hx18_0, hf18_0⟩ := Kd.R_celln 0 HO_5.out ((ji15) : Int) p18 q18
     replace p18 := eq_true p18
     replace q18 := eq_true q18
     have HP20 := Kd.R_putg HO_5.out ((ji15) : Int) (wrap64 ((rd x5_2 (ji15)) + (wrap64 ((rd l0 x22_1) * (rd l1 x29_2)))))
     go_wp2_with (first | ((with_reducible refine gate_store (t := 3) (p := 44) rfl ?_); refine store_event (t := 3) (p := 44) (v := ?vo_w21) (w1 := (wr.setCell ⟨go18, ((ji15) : Int).toNat, none⟩ (.int .i64 (wrap64 ((rd x5_2 (ji15)) + (wrap64 ((rd l0 x22_1) * (rd l1 x29_2)))))))) ?hg ?ho ?hn ?hr ?_; (case ho => rfl); (case hg => rfl); (case hn => rfl); (case hr => first | (go_simp; done) | (go_simp; rfl)); intro w21 hw; have hg : wr.grownBy w21 (some go18) := (by rw [hw]; exact HP20.2); have hp_ : Kd.R (Kd.int .i64) 3 w21 w.heap.size (fun _ => True) (.slice (some ⟨go18, 0, none⟩) x5_2.length co19) y346 := (by rw [hw, Ny346.out]; exact HP20.1); clear HP20; replace HO_5 := Aside0.mk (hp_); replace HB := Aside0.mk ((by rw [hw]; exact below_set (HB.out) GB18.out : Below w.heap.size w w21)); clear hg hw hp_))
     go_roundg k2
     case measure => have := HK1.out; have := HK2.out; omega
     case rel => exact ⟨(y346), (wrap64 (x29_2 + 1)), (by first | rfl | (simp; done) | (simp [*]; done)), H', ⟨by have := HK1.out; have := HK2.out; omega⟩, ⟨xR HO_5.out⟩, ⟨xB HB.out⟩⟩
/-! ### spec_cbStuff: function 330 -/
mutual
def spec_cbStuff.l0 : Nat → Int → List Int → List Int → Int → Int → Option (List Int)
 | 0, _, _, _, _, _ => none
 | k + 1, x1, x5, x9, x10, x11 => if x11 < x10 then (if 0 ≤ x11 then (if x11 < (x9.length : Int) then (if x5.length < 17592186044416 then (spec_cbStuff.l1 k x1 (x5 ++ [rd x9 x11]) 1 x9 x10 x11) else (none)) else (none)) else (none)) else (some x5)
def spec_cbStuff.l1 : Nat → Int → List Int → Int → List Int → Int → Int → Option (List Int)
 | 0, _, _, _, _, _, _ => none
 | k + 1, x1, x5, x8, x9, x10, x11 => if x8 < x1 then (if x5.length < 17592186044416 then (spec_cbStuff.l1 k x1 (x5 ++ [0]) (wrap64 (x8 + 1)) x9 x10 x11) else (none)) else (spec_cbStuff.l0 k x1 x5 x9 x10 (wrap64 (x11 + 1)))
end
def spec_cbStuff.f (k : Nat) (l0 : List Int) (a1 : Int) : Option (List Int) := spec_cbStuff.l0 k a1 ([] : List Int) l0 (l0.length : Int) 0
theorem spec_cbStuff.mono_l : ∀ k, (∀ y0 y1 y2 y3 y4, LeO (spec_cbStuff.l0 k y0 y1 y2 y3 y4) (spec_cbStuff.l0 (k + 1) y0 y1 y2 y3 y4)) ∧ (∀ y0 y1 y2 y3 y4 y5, LeO (spec_cbStuff.l1 k y0 y1 y2 y3 y4 y5) (spec_cbStuff.l1 (k + 1) y0 y1 y2 y3 y4 y5))
 | 0 => ⟨fun _ _ _ _ _ r h => by simp [spec_cbStuff.l0] at h, fun _ _ _ _ _ _ r h => by simp [spec_cbStuff.l1] at h⟩
 | k + 1 => by
  obtain ⟨ih0, ih1⟩ := spec_cbStuff.mono_l k
  refine ⟨?_, ?_⟩ <;> intros
  ·unfold spec_cbStuff.l0; exact xM
  ·unfold spec_cbStuff.l1; exact xM
theorem spec_cbStuff.mono : ∀ a0 a1 k, LeO (spec_cbStuff.f k a0 a1) (spec_cbStuff.f (k + 1) a0 a1) := by
 intro a0 a1 k
 obtain ⟨ih0, ih1⟩ := spec_cbStuff.mono_l k
 unfold spec_cbStuff.f
 exact xM
set_option maxHeartbeats 8000000 in
set_option maxRecDepth 100000 in
theorem spec_cbStuff.calls (k : Nat) (A0 : Option Addr) (c0 : Nat) (l0 : List Int) (a1 : Int) (r : List Int) (w : World) (hr0 : Kd.C (Kd.int .i64) w A0 l0.length l0) (hc0 : l0.length ≤ c0) (h : spec_cbStuff.f k l0 a1 = some r) :
  Calls Try.prog 330 #[.slice A0 l0.length c0, .int .i64 a1] w fun e w' => ∃ v0_ : Value, e = .returned (v0_) ∧ Kd.R (Kd.int .i64) 3 w' w.heap.size (fun _ => True) v0_ r ∧ Below w.heap.size w w' := by
 have HR0 := Aside0.mk hr0
 have HC0 := Aside0.mk hc0
 clear hr0 hc0
 have HB := Aside0.mk (Below.refl w.heap.size w)
 have H : (spec_cbStuff.l0 k a1 ([] : List Int) l0 (l0.length : Int) 0) = some r := h
 clear h
 have H' := Aside0.mk H
 clear H
 go_enter Try.func330, Try.ntmps330
 go_wp2
 go_loopg [5, 11] k (fun kq v5 v11 w' => ∃ (x5_1 : List Int) (x11_1 : Int), v11 = .int .i64 x11_1 ∧ Aside0 (spec_cbStuff.l0 kq a1 x5_1 l0 (l0.length : Int) x11_1 = some r) ∧ Aside0 (kq ≤ k) ∧ Aside0 (Kd.R (Kd.int .i64) 3 w' w.heap.size (fun _ => True) v5 x5_1) ∧ Aside0 (Below w.heap.size w w'))
 case atStart => exact ⟨(([] : List Int)), (0), (by first | rfl | (simp; done) | (simp [*]; done)), H', ⟨Nat.le_refl _⟩, ⟨by first | exact Kd.R_nil _ _ _ _ _ | exact Kd.N_nil _ _ _ _ _ | exact Kd.V_nil _ _ _ _ _ | exact Kd.Q_nil _ _ _ _ _ | exact Kd.S_nil _ _ _ _ _⟩, ⟨xB HB.out⟩⟩
 case round =>
  clear H'
  obtain ⟨x5_1, x11_1, rfl, HA, HK1, HO_5, HB⟩ := hrel
  cases gk with
  | zero => exact absurd HA.out (by simp [spec_cbStuff.l0])
  | succ k1 =>
   have H := HA.out
   clear HA
   simp only [spec_cbStuff.l0] at H
   by_cases c3 : x11_1 < (l0.length : Int)
   rotate_left
   ·rw [if_neg c3] at H
    have c3b0 : decide (x11_1 < (l0.length : Int)) = false := decide_eq_false c3
    clear c3
    obtain rfl := Option.some.inj H
    go_wp2
    go_ret
    exact ⟨_, by first | rfl | (simp [errW_none, errW_some] <;> rfl) | (simp [*, errW_none, errW_some] <;> rfl), xR HO_5.out, xB HB.out⟩

   rw [if_pos c3] at H
   have c3b0 : decide (x11_1 < (l0.length : Int)) = true := decide_eq_true c3
   clear c3
   by_cases c4 : 0 ≤ x11_1
   rotate_left
   ·rw [if_neg c4] at H
    exact absurd H (by simp)
   rw [if_pos c4] at H
   have c4b0 : decide (0 ≤ x11_1) = true := decide_eq_true c4
   clear c4
   by_cases c5 : x11_1 < (l0.length : Int)
   rotate_left
   ·rw [if_neg c5] at H
    exact absurd H (by simp)
   rw [if_pos c5] at H
   have c5b0 : decide (x11_1 < (l0.length : Int)) = true := decide_eq_true c5
   clear c5
   by_cases c6 : x5_1.length < 17592186044416
   rotate_left
   ·rw [if_neg c6] at H
    exact absurd H (by simp)
   rw [if_pos c6] at H
   have LMc6 := Aside0.mk c6
   clear c6
   obtain ⟨y348, hy348⟩ : ∃ y_ : List Int, y_ = (x5_1 ++ [rd l0 x11_1]) := ⟨_, rfl⟩
   replace H : (spec_cbStuff.l1 k1 a1 y348 1 l0 (l0.length : Int) x11_1) = some r := by first | (rw [hy348]; with_reducible exact H) | (have H2_ := (Option.bind_some _ _).symm.trans H; rw [hy348]; with_reducible exact H2_) | (have H2_ := (Option.bind_some _ _).symm.trans H; with_reducible exact H2_) | with_reducible exact H | (rw [hy348]; exact H) | exact H
   have Ny348 := Aside0.mk hy348
   clear hy348
   have H' := Aside0.mk H
   clear H
   have p347 : 0 ≤ (x11_1 : Int) := of_decide_eq_true (by first | (with_reducible assumption) | assumption)
   have q347 : x11_1 < (l0.length : Int) := of_decide_eq_true (by first | (with_reducible assumption) | assumption)
   obtain ⟨ad347, e347, hx347_0⟩ := Kd.at_int HR0.out x11_1 p347 q347
   cases e347
   replace hx347_0 := (HB.out.cell (World.block_lt_of_cell? w _ hx347_0)).trans hx347_0
   replace p347 := eq_true p347
   replace q347 := eq_true q347
   go_wp2_with (first | ((with_reducible refine gate_builtin (b := .append) (xs := #[.tmp 15, .tmp 17]) rfl ?_); at_builtin; refine Kd.R_append (Kd.int .i64) (w0 := w) w.heap.size rfl (.tmp 15) (.tmp 17) 24 3 (.int .i64 0) 8 rfl Try.underlying24 info3 rfl (by decide) (by omega) u5 x5_1 (rd l0 x11_1) [.int .i64 (rd l0 x11_1)] (fun _ => True) (fun _ => False) rfl rfl ?aP (fun _ hk => hk.elim) ?aF ?aO ?aB ?aS ?aL ?_; (case aP => exact rfl); (case aB => exact (xB HB.out)); (case aF => exact (fun _ _ => trivial)); (case aO => exact (xR HO_5.out)); (case aS => exact (below_size (xB HB.out))); (case aL => have := LMc6.out; omega); intro v349 w7 ho hb hg hat; rw [← Ny348.out] at ho; replace HB := Aside0.mk (hb); have HO350 := Aside0.mk (ho); clear HO_5; clear ho hb hg hat))
   go_loopg [5, 8] k1 (fun kq v5 v8 w' => ∃ (x5_2 : List Int) (x8_2 : Int), v8 = .int .i64 x8_2 ∧ Aside0 (spec_cbStuff.l1 kq a1 x5_2 x8_2 l0 (l0.length : Int) x11_1 = some r) ∧ Aside0 (kq ≤ k1) ∧ Aside0 (Kd.R (Kd.int .i64) 3 w' w.heap.size (fun _ => True) v5 x5_2) ∧ Aside0 (Below w.heap.size w w'))
   case atStart => exact ⟨(y348), (1), (by first | rfl | (simp; done) | (simp [*]; done)), H', ⟨Nat.le_refl _⟩, ⟨xR HO350.out⟩, ⟨xB HB.out⟩⟩
   case round =>
    clear H'
    try clear c3b0
    try clear c4b0
    try clear c5b0
    try clear hx347_0
    try clear p347
    try clear q347
    obtain ⟨x5_2, x8_2, rfl, HA, HK2, HO_5, HB⟩ := hrel
    cases gk with
    | zero => exact absurd HA.out (by simp [spec_cbStuff.l1])
    | succ k2 =>
     have H := HA.out
     clear HA
     simp only [spec_cbStuff.l1] at H
     by_cases c8 : x8_2 < a1
     rotate_left
     ·rw [if_neg c8] at H
      have c8b0 : decide (x8_2 < a1) = false := decide_eq_false c8
      clear c8
      have H' := Aside0.mk H
      clear H
      go_wp2
      go_roundg k2
      case measure => have := HK1.out; have := HK2.out; omega
      case rel => exact ⟨(x5_2), (wrap64 (x11_1 + 1)), (by first | rfl | (simp; done) | (simp [*]; done)), H', ⟨by have := HK1.out; have := HK2.out; omega⟩, ⟨xR HO_5.out⟩, ⟨xB HB.out⟩⟩
     rw [if_pos c8] at H
     have c8b0 : decide (x8_2 < a1) = true := decide_eq_true c8
     clear c8
     by_cases c9 : x5_2.length < 17592186044416
     rotate_left
     ·rw [if_neg c9] at H
      exact absurd H (by simp)
     rw [if_pos c9] at H
     have LMc9 := Aside0.mk c9
     clear c9
     obtain ⟨y351, hy351⟩ : ∃ y_ : List Int, y_ = (x5_2 ++ [0]) := ⟨_, rfl⟩
     replace H : (spec_cbStuff.l1 k2 a1 y351 (wrap64 (x8_2 + 1)) l0 (l0.length : Int) x11_1) = some r := by first | (rw [hy351]; with_reducible exact H) | (have H2_ := (Option.bind_some _ _).symm.trans H; rw [hy351]; with_reducible exact H2_) | (have H2_ := (Option.bind_some _ _).symm.trans H; with_reducible exact H2_) | with_reducible exact H | (rw [hy351]; exact H) | exact H
     have Ny351 := Aside0.mk hy351
     clear hy351
     have H' := Aside0.mk H
     clear H
     go_wp2_with (first | ((with_reducible refine gate_builtin (b := .append) (xs := #[.tmp 24, .tmp 25]) rfl ?_); at_builtin; refine Kd.R_append (Kd.int .i64) (w0 := w) w.heap.size rfl (.tmp 24) (.tmp 25) 24 3 (.int .i64 0) 8 rfl Try.underlying24 info3 rfl (by decide) (by omega) u5 x5_2 0 [.int .i64 0] (fun _ => True) (fun _ => False) rfl rfl ?aP (fun _ hk => hk.elim) ?aF ?aO ?aB ?aS ?aL ?_; (case aP => exact rfl); (case aB => exact (xB HB.out)); (case aF => exact (fun _ _ => trivial)); (case aO => exact (xR HO_5.out)); (case aS => exact (below_size (xB HB.out))); (case aL => have := LMc9.out; omega); intro v352 w10 ho hb hg hat; rw [← Ny351.out] at ho; replace HB := Aside0.mk (hb); have HO353 := Aside0.mk (ho); clear HO_5; clear ho hb hg hat))
     go_roundg k2
     case measure => have := HK1.out; have := HK2.out; omega
     case rel => exact ⟨(y351), (wrap64 (x8_2 + 1)), (by first | rfl | (simp; done) | (simp [*]; done)), H', ⟨by have := HK1.out; have := HK2.out; omega⟩, ⟨xR HO353.out⟩, ⟨xB HB.out⟩⟩
/-! ### spec_cbDrop: function 365 -/
def spec_cbDrop.l0 : Nat → List Int → Int → List Int → Int → Option (List Int)
 | 0, _, _, _, _ => none
 | k + 1, x0, x1, x7, x8 => if x8 < (x0.length : Int) then (if 0 ≤ x8 then (if x7.length < 17592186044416 then (spec_cbDrop.l0 k x0 x1 (x7 ++ [rd x0 x8]) (wrap64 (x8 + x1))) else (none)) else (none)) else (some x7)
def spec_cbDrop.f (k : Nat) (l0 : List Int) (a1 : Int) (a2 : Int) : Option (List Int) := spec_cbDrop.l0 k l0 a1 ([] : List Int) a2
theorem spec_cbDrop.mono_l : ∀ k, (∀ y0 y1 y2 y3, LeO (spec_cbDrop.l0 k y0 y1 y2 y3) (spec_cbDrop.l0 (k + 1) y0 y1 y2 y3))
 | 0 => fun _ _ _ _ r h => by simp [spec_cbDrop.l0] at h
 | k + 1 => by
  have ih0 := spec_cbDrop.mono_l k
  intros
  unfold spec_cbDrop.l0
  exact xM
theorem spec_cbDrop.mono : ∀ a0 a1 a2 k, LeO (spec_cbDrop.f k a0 a1 a2) (spec_cbDrop.f (k + 1) a0 a1 a2) := by
 intro a0 a1 a2 k
 have ih0 := spec_cbDrop.mono_l k
 unfold spec_cbDrop.f
 exact xM
set_option maxHeartbeats 8000000 in
set_option maxRecDepth 100000 in
theorem spec_cbDrop.calls (k : Nat) (A0 : Option Addr) (c0 : Nat) (l0 : List Int) (a1 : Int) (a2 : Int) (r : List Int) (w : World) (hr0 : Kd.C (Kd.int .i64) w A0 l0.length l0) (hc0 : l0.length ≤ c0) (h : spec_cbDrop.f k l0 a1 a2 = some r) :
  Calls Try.prog 365 #[.slice A0 l0.length c0, .int .i64 a1, .int .i64 a2] w fun e w' => ∃ v0_ : Value, e = .returned (v0_) ∧ Kd.R (Kd.int .i64) 3 w' w.heap.size (fun _ => True) v0_ r ∧ Below w.heap.size w w' := by
 have HR0 := Aside0.mk hr0
 have HC0 := Aside0.mk hc0
 clear hr0 hc0
 have HB := Aside0.mk (Below.refl w.heap.size w)
 have H : (spec_cbDrop.l0 k l0 a1 ([] : List Int) a2) = some r := h
 clear h
 have H' := Aside0.mk H
 clear H
 go_enter Try.func365, Try.ntmps365
 go_wp2
 go_loopg [7, 8] k (fun kq v7 v8 w' => ∃ (x7_1 : List Int) (x8_1 : Int), v8 = .int .i64 x8_1 ∧ Aside0 (spec_cbDrop.l0 kq l0 a1 x7_1 x8_1 = some r) ∧ Aside0 (kq ≤ k) ∧ Aside0 (Kd.R (Kd.int .i64) 3 w' w.heap.size (fun _ => True) v7 x7_1) ∧ Aside0 (Below w.heap.size w w'))
 case atStart => exact ⟨(([] : List Int)), (a2), (by first | rfl | (simp; done) | (simp [*]; done)), H', ⟨Nat.le_refl _⟩, ⟨by first | exact Kd.R_nil _ _ _ _ _ | exact Kd.N_nil _ _ _ _ _ | exact Kd.V_nil _ _ _ _ _ | exact Kd.Q_nil _ _ _ _ _ | exact Kd.S_nil _ _ _ _ _⟩, ⟨xB HB.out⟩⟩
 case round =>
  clear H'
  obtain ⟨x7_1, x8_1, rfl, HA, HK1, HO_7, HB⟩ := hrel
  cases gk with
  | zero => exact absurd HA.out (by simp [spec_cbDrop.l0])
  | succ k1 =>
   have H := HA.out
   clear HA
   simp only [spec_cbDrop.l0] at H
   by_cases c4 : x8_1 < (l0.length : Int)
   rotate_left
   ·rw [if_neg c4] at H
    have c4b0 : decide (x8_1 < (l0.length : Int)) = false := decide_eq_false c4
    clear c4
    obtain rfl := Option.some.inj H
    go_wp2
    go_ret
    exact ⟨_, by first | rfl | (simp [errW_none, errW_some] <;> rfl) | (simp [*, errW_none, errW_some] <;> rfl), xR HO_7.out, xB HB.out⟩

   rw [if_pos c4] at H
   have c4b0 : decide (x8_1 < (l0.length : Int)) = true := decide_eq_true c4
   clear c4
   by_cases c5 : 0 ≤ x8_1
   rotate_left
   ·rw [if_neg c5] at H
    exact absurd H (by simp)
   rw [if_pos c5] at H
   have c5b0 : decide (0 ≤ x8_1) = true := decide_eq_true c5
   clear c5
   by_cases c6 : x7_1.length < 17592186044416
   rotate_left
   ·rw [if_neg c6] at H
    exact absurd H (by simp)
   rw [if_pos c6] at H
   have LMc6 := Aside0.mk c6
   clear c6
   obtain ⟨y355, hy355⟩ : ∃ y_ : List Int, y_ = (x7_1 ++ [rd l0 x8_1]) := ⟨_, rfl⟩
   replace H : (spec_cbDrop.l0 k1 l0 a1 y355 (wrap64 (x8_1 + a1))) = some r := by first | (rw [hy355]; with_reducible exact H) | (have H2_ := (Option.bind_some _ _).symm.trans H; rw [hy355]; with_reducible exact H2_) | (have H2_ := (Option.bind_some _ _).symm.trans H; with_reducible exact H2_) | with_reducible exact H | (rw [hy355]; exact H) | exact H
   have Ny355 := Aside0.mk hy355
   clear hy355
   have H' := Aside0.mk H
   clear H
   have p354 : 0 ≤ (x8_1 : Int) := of_decide_eq_true (by first | (with_reducible assumption) | assumption)
   have q354 : x8_1 < (l0.length : Int) := of_decide_eq_true (by first | (with_reducible assumption) | assumption)
   obtain ⟨ad354, e354, hx354_0⟩ := Kd.at_int HR0.out x8_1 p354 q354
   cases e354
   replace hx354_0 := (HB.out.cell (World.block_lt_of_cell? w _ hx354_0)).trans hx354_0
   replace p354 := eq_true p354
   replace q354 := eq_true q354
   go_wp2_with (first | ((with_reducible refine gate_builtin (b := .append) (xs := #[.tmp 17, .tmp 22]) rfl ?_); at_builtin; refine Kd.R_append (Kd.int .i64) (w0 := w) w.heap.size rfl (.tmp 17) (.tmp 22) 24 3 (.int .i64 0) 8 rfl Try.underlying24 info3 rfl (by decide) (by omega) u7 x7_1 (rd l0 x8_1) [.int .i64 (rd l0 x8_1)] (fun _ => True) (fun _ => False) rfl rfl ?aP (fun _ hk => hk.elim) ?aF ?aO ?aB ?aS ?aL ?_; (case aP => exact rfl); (case aB => exact (xB HB.out)); (case aF => exact (fun _ _ => trivial)); (case aO => exact (xR HO_7.out)); (case aS => exact (below_size (xB HB.out))); (case aL => have := LMc6.out; omega); intro v356 w7 ho hb hg hat; rw [← Ny355.out] at ho; replace HB := Aside0.mk (hb); have HO357 := Aside0.mk (ho); clear HO_7; clear ho hb hg hat))
   go_roundg k1
   case measure => have := HK1.out; omega
   case rel => exact ⟨(y355), (wrap64 (x8_1 + a1)), (by first | rfl | (simp; done) | (simp [*]; done)), H', ⟨by have := HK1.out; omega⟩, ⟨xR HO357.out⟩, ⟨xB HB.out⟩⟩
/-! ### spec_rsDirect: function 352 -/
def spec_rsDirect.f (k : Nat) (l0 : List Int) (l1 : List Int) (a2 : Int) (a3 : Int) : Option (List Int) := (spec_cbStuff.f k l1 a2).bind fun t358 => ((spec_weAnswer.f k l0 t358).bind fun t361 => (if 0 ≤ (t358.length : Int) then (if (t358.length : Int) ≤ (t361.length : Int) then ((spec_cbDrop.f k (t361.take ((t358.length : Int) : Int).toNat) a3 0).bind fun t368 => (some t368)) else (none)) else (none)))
theorem spec_rsDirect.mono : ∀ a0 a1 a2 a3 k, LeO (spec_rsDirect.f k a0 a1 a2 a3) (spec_rsDirect.f (k + 1) a0 a1 a2 a3) := by
 intro a0 a1 a2 a3 k
 have m0 := @spec_cbDrop.mono
 have m1 := @spec_cbStuff.mono
 have m2 := @spec_weAnswer.mono
 unfold spec_rsDirect.f
 exact xM
set_option maxHeartbeats 8000000 in
set_option maxRecDepth 100000 in
theorem spec_rsDirect.calls (k : Nat) (A0 : Option Addr) (c0 : Nat) (l0 : List Int) (A1 : Option Addr) (c1 : Nat) (l1 : List Int) (a2 : Int) (a3 : Int) (r : List Int) (w : World) (hr0 : Kd.C (Kd.int .i64) w A0 l0.length l0) (hc0 : l0.length ≤ c0) (hr1 : Kd.C (Kd.int .i64) w A1 l1.length l1) (hc1 : l1.length ≤ c1) (h : spec_rsDirect.f k l0 l1 a2 a3 = some r) :
  Calls Try.prog 352 #[.slice A0 l0.length c0, .slice A1 l1.length c1, .int .i64 a2, .int .i64 a3] w fun e w' => ∃ v0_ : Value, e = .returned (v0_) ∧ Kd.R (Kd.int .i64) 3 w' w.heap.size (fun _ => True) v0_ r ∧ Below w.heap.size w w' := by
 have HR0 := Aside0.mk hr0
 have HC0 := Aside0.mk hc0
 clear hr0 hc0
 have HR1 := Aside0.mk hr1
 have HC1 := Aside0.mk hc1
 clear hr1 hc1
 have HB := Aside0.mk (Below.refl w.heap.size w)
 have H : ((spec_cbStuff.f k l1 a2).bind fun t358 => ((spec_weAnswer.f k l0 t358).bind fun t361 => (if 0 ≤ (t358.length : Int) then (if (t358.length : Int) ≤ (t361.length : Int) then ((spec_cbDrop.f k (t361.take ((t358.length : Int) : Int).toNat) a3 0).bind fun t368 => (some t368)) else (none)) else (none)))) = some r := h
 clear h
 obtain ⟨t358, A5, H⟩ := xO H
 (try dsimp only at H)
 obtain ⟨t361, A6, H⟩ := xO H
 (try dsimp only at H)
 by_cases c7 : 0 ≤ (t358.length : Int)
 rotate_left
 ·rw [if_neg c7] at H
  exact absurd H (by simp)

 rw [if_pos c7] at H
 have c7b0 := eq_true c7
 have c7b1 : decide (0 ≤ (t358.length : Int)) = true := decide_eq_true c7
 clear c7
 by_cases c8 : (t358.length : Int) ≤ (t361.length : Int)
 rotate_left
 ·rw [if_neg c8] at H
  exact absurd H (by simp)
 rw [if_pos c8] at H
 have c8b0 := eq_true c8
 have c8b1 : decide ((t358.length : Int) ≤ (t361.length : Int)) = true := decide_eq_true c8
 clear c8
 obtain ⟨y364, hy364⟩ : ∃ y_ : List Int, y_ = (t361.take ((t358.length : Int) : Int).toNat) := ⟨_, rfl⟩
 replace H : ((spec_cbDrop.f k y364 a3 0).bind fun t368 => (some t368)) = some r := by first | (rw [hy364]; with_reducible exact H) | (have H2_ := (Option.bind_some _ _).symm.trans H; rw [hy364]; with_reducible exact H2_) | (have H2_ := (Option.bind_some _ _).symm.trans H; with_reducible exact H2_) | with_reducible exact H | (rw [hy364]; exact H) | exact H
 have Ny364 := Aside0.mk hy364
 clear hy364
 obtain ⟨t368, A9, H⟩ := xO H
 (try dsimp only at H)
 obtain rfl := Option.some.inj H
 go_enter Try.func352, Try.ntmps352
 go_wp2_with (first | (refine xG (some 12) Try.func330 #[.slice A1 l1.length c1, .int .i64 a2] ?_; (with_reducible refine (spec_cbStuff.calls k _ _ l1 a2 t358 _ ?side1 ?side2 A5.out).mono ?_); (case side1 => exact xC HR1.out); (case side2 => exact HC1.out); rintro e w10 ⟨v359, rfl, ho0, hb⟩; refine ⟨_, rfl, ?_⟩; have HO360 := Aside0.mk (Kd.R_lower ho0 (below_size (xB HB.out))); replace HB := Aside0.mk (below_step (xB HB.out) hb); (try clear hb); (try clear hb2); (try clear hk); (try clear hi); (try clear ho0); obtain ⟨Ao11, co11, eo11⟩ := Kd.R_slice HO360.out; subst eo11) | (refine xG (some 15) Try.func274 #[.slice A0 l0.length c0, .slice Ao11 t358.length co11] ?_; (with_reducible refine (spec_weAnswer.calls k _ _ l0 _ _ t358 t361 _ ?side1 ?side2 ?side3 ?side4 A6.out).mono ?_); (case side1 => exact xC (Kd.C_below HR0.out HB.out)); (case side2 => exact HC0.out); (case side3 => exact xC ((Kd.R_reads' HO360.out).2.2)); (case side4 => exact (Kd.R_reads' HO360.out).2.1); rintro e w12 ⟨v362, rfl, ho0, hb⟩; refine ⟨_, rfl, ?_⟩; have HO363 := Aside0.mk (Kd.R_lower (Kd.R_new' ho0 (Kd.R_lt (xR HO360.out))) (below_size (xB HB.out))); replace HO360 := Aside0.mk (Kd.R_elder' (xR HO360.out) (Kd.R_base ho0) hb); replace HB := Aside0.mk (below_step (xB HB.out) hb); (try clear hb); (try clear hb2); (try clear hk); (try clear hi); (try clear ho0); obtain ⟨Ao14, co14, eo14⟩ := Kd.R_slice HO363.out; subst eo14; have q13 : ((t358.length : Int) : Int) ≤ ((t361.length : Int) : Int) := of_decide_eq_true (by first | (with_reducible assumption) | assumption); obtain ⟨i013, hi013, _, hsz13, _⟩ := info_parts info3; have hroom13 : t361.length ≤ co14 := (Kd.R_reads' HO363.out).2.1; have hC13 : Kd.C (Kd.int .i64) _ Ao14 t361.length t361 := (Kd.R_reads' HO363.out).2.2; have hcut13 := cut_to (P := Try.prog) 24 3 .i64 Try.underlying24 hi013 Ao14 t361.length co14 (t358.length : Int) (of_decide_eq_true (by first | (with_reducible assumption) | assumption)) q13 hroom13; have hr13 := Kd.C_take (m := ((t358.length : Int) : Int).toNat) hC13 (by omega); have hy13 : y364.length = ((t358.length : Int) : Int).toNat := (by rw [Ny364.out, List.length_take]; omega); rw [← Ny364.out] at hr13; rw [← hy13] at hcut13; have HR367 := Aside0.mk hr13; have HC367 := Aside0.mk (show y364.length ≤ co14 from by omega); clear hr13 hC13 hroom13 hi013 hsz13; have KY13 := Aside0.mk hy13; clear hy13; have KL13 := Aside0.mk (show ((t358.length : Int) : Int).toNat ≤ t361.length from by omega); replace q13 := eq_true q13) | (refine xG (some 20) Try.func365 #[.slice Ao14 y364.length co14, .int .i64 a3, .int .i64 0] ?_; (with_reducible refine (spec_cbDrop.calls k _ _ y364 a3 0 t368 _ ?side1 ?side2 A9.out).mono ?_); (case side1 => repeat (first | exact (by repeat (first | (with_reducible exact HR367.out) | (with_reducible refine Kd.C_alloc ?_ _) | (with_reducible refine Kd.C_drewN ?_ _) | (with_reducible refine Kd.C_drew ?_) | exact HR367.out)) | (with_reducible refine Kd.C_alloc ?_ _) | (with_reducible refine Kd.C_drewN ?_ _) | (with_reducible refine Kd.C_drew ?_))); (case side2 => exact HC367.out); rintro e w15 ⟨v369, rfl, ho0, hb⟩; refine ⟨_, rfl, ?_⟩; have HO370 := Aside0.mk (Kd.R_lower (Kd.R_new' (Kd.R_new' ho0 (Kd.R_lt (xR HO360.out))) (Kd.R_lt (xR HO363.out))) (below_size (xB HB.out))); replace HO360 := Aside0.mk (Kd.R_elder' (xR HO360.out) (Kd.R_base ho0) hb); replace HO363 := Aside0.mk (Kd.R_elder' (xR HO363.out) (Kd.R_base ho0) hb); replace HR367 := Aside0.mk (Kd.C_below (by repeat (first | (with_reducible exact HR367.out) | (with_reducible refine Kd.C_alloc ?_ _) | (with_reducible refine Kd.C_drewN ?_ _) | (with_reducible refine Kd.C_drew ?_) | exact HR367.out)) hb); replace HB := Aside0.mk (below_step (xB HB.out) hb); (try clear hb); (try clear hb2); (try clear hk); (try clear hi); (try clear ho0)))
 go_ret
 exact ⟨_, by first | rfl | (simp [errW_none, errW_some] <;> rfl) | (simp [*, errW_none, errW_some] <;> rfl), by (with_reducible repeat (first | apply Kd.R_alloc | apply Kd.R_drewN | apply Kd.R_drew)); exact Kd.R_mono HO370.out (fun _ hk => trivial), xB HB.out⟩
/-! ### spec_UpFilterDown: function 160 -/
def spec_UpFilterDown.f (k : Nat) (l0 : List Int) (l1 : List Int) (a2 : Int) (a3 : Int) : Option (List Int × Bool) := (spec_rsAsked.f k l0 l1 a2 a3).bind fun t371 => (if t371 = true then ((spec_rsDirect.f k l0 l1 a2 a3).bind fun t372 => ((spec_wdIf.f k t372).bind fun bt375 => (some (bt375.1, bt375.2)))) else (some (([] : List Int), false)))
theorem spec_UpFilterDown.mono : ∀ a0 a1 a2 a3 k, LeO (spec_UpFilterDown.f k a0 a1 a2 a3) (spec_UpFilterDown.f (k + 1) a0 a1 a2 a3) := by
 intro a0 a1 a2 a3 k
 have m0 := @spec_rsAsked.mono
 have m1 := @spec_rsDirect.mono
 have m2 := @spec_wdIf.mono
 unfold spec_UpFilterDown.f
 exact xM
set_option maxHeartbeats 8000000 in
set_option maxRecDepth 100000 in
theorem spec_UpFilterDown.calls (k : Nat) (A0 : Option Addr) (c0 : Nat) (l0 : List Int) (A1 : Option Addr) (c1 : Nat) (l1 : List Int) (a2 : Int) (a3 : Int) (r1 : List Int) (r2 : Bool) (w : World) (hr0 : Kd.C (Kd.int .i64) w A0 l0.length l0) (hc0 : l0.length ≤ c0) (hr1 : Kd.C (Kd.int .i64) w A1 l1.length l1) (hc1 : l1.length ≤ c1) (h : spec_UpFilterDown.f k l0 l1 a2 a3 = some (r1, r2)) :
  Calls Try.prog 160 #[.slice A0 l0.length c0, .slice A1 l1.length c1, .int .i64 a2, .int .i64 a3] w fun e w' => ∃ v0_ : Value, e = .returned (.tuple #[v0_, .bool r2]) ∧ Kd.R (Kd.int .i64) 3 w' w.heap.size (fun _ => True) v0_ r1 ∧ Below w.heap.size w w' := by
 have HR0 := Aside0.mk hr0
 have HC0 := Aside0.mk hc0
 clear hr0 hc0
 have HR1 := Aside0.mk hr1
 have HC1 := Aside0.mk hc1
 clear hr1 hc1
 have HB := Aside0.mk (Below.refl w.heap.size w)
 have H : ((spec_rsAsked.f k l0 l1 a2 a3).bind fun t371 => (if t371 = true then ((spec_rsDirect.f k l0 l1 a2 a3).bind fun t372 => ((spec_wdIf.f k t372).bind fun bt375 => (some (bt375.1, bt375.2)))) else (some (([] : List Int), false)))) = some (r1, r2) := h
 clear h
 obtain ⟨t371, A5, H⟩ := xO H
 (try dsimp only at H)
 by_cases c6 : t371 = true
 rotate_left
 ·replace c6 := Bool.eq_false_iff.mpr c6
  subst c6
  rw [if_neg (show ¬ (false = true) by decide)] at H
  simp only [Option.some.injEq, Prod.mk.injEq] at H
  obtain ⟨rfl, rfl⟩ := H
  go_enter Try.func160, Try.ntmps160
  go_wp2_with (first | (refine xG (some 14) Try.func351 #[.slice A0 l0.length c0, .slice A1 l1.length c1, .int .i64 a2, .int .i64 a3] ?_; (with_reducible refine (spec_rsAsked.calls k _ _ l0 _ _ l1 a2 a3 false _ ?side1 ?side2 ?side3 ?side4 A5.out).mono ?_); (case side1 => exact xC HR0.out); (case side2 => exact HC0.out); (case side3 => exact xC HR1.out); (case side4 => exact HC1.out); rintro e w' ⟨rfl, ⟨nd, rfl⟩⟩; refine ⟨_, rfl, ?_⟩))
  go_ret2
  exact ⟨_, by first | rfl | (simp [errW_none, errW_some] <;> rfl) | (simp [*, errW_none, errW_some] <;> rfl), by first | exact Kd.R_nil _ _ _ _ _ | exact Kd.N_nil _ _ _ _ _ | exact Kd.V_nil _ _ _ _ _ | exact Kd.Q_nil _ _ _ _ _ | exact Kd.S_nil _ _ _ _ _, xB HB.out⟩

 subst c6
 rw [if_pos rfl] at H
 obtain ⟨t372, A7, H⟩ := xO H
 (try dsimp only at H)
 replace H := Option.bind_eq_some_iff.mp H
 obtain ⟨⟨t375, t378⟩, A80, H⟩ := H
 (try dsimp only at H)
 have A8 := Aside0.mk A80
 clear A80
 simp only [Option.some.injEq, Prod.mk.injEq] at H
 obtain ⟨rfl, rfl⟩ := H
 go_enter Try.func160, Try.ntmps160
 go_wp2_with (first | (refine xG (some 14) Try.func351 #[.slice A0 l0.length c0, .slice A1 l1.length c1, .int .i64 a2, .int .i64 a3] ?_; (with_reducible refine (spec_rsAsked.calls k _ _ l0 _ _ l1 a2 a3 true _ ?side1 ?side2 ?side3 ?side4 A5.out).mono ?_); (case side1 => exact xC HR0.out); (case side2 => exact HC0.out); (case side3 => exact xC HR1.out); (case side4 => exact HC1.out); rintro e w' ⟨rfl, ⟨nd, rfl⟩⟩; refine ⟨_, rfl, ?_⟩) | (refine xG (some 20) Try.func352 #[.slice A0 l0.length c0, .slice A1 l1.length c1, .int .i64 a2, .int .i64 a3] ?_; (with_reducible refine (spec_rsDirect.calls k _ _ l0 _ _ l1 a2 a3 t372 _ ?side1 ?side2 ?side3 ?side4 A7.out).mono ?_); (case side1 => exact xC HR0.out); (case side2 => exact HC0.out); (case side3 => exact xC HR1.out); (case side4 => exact HC1.out); rintro e w9 ⟨v373, rfl, ho0, hb⟩; refine ⟨_, rfl, ?_⟩; have HO374 := Aside0.mk (Kd.R_lower ho0 (below_size (xB HB.out))); replace HB := Aside0.mk (below_step (xB HB.out) hb); (try clear hb); (try clear hb2); (try clear hk); (try clear hi); (try clear ho0); obtain ⟨Ao10, co10, eo10⟩ := Kd.R_slice HO374.out; subst eo10) | (refine xG (some 21) Try.func219 #[.slice Ao10 t372.length co10] ?_; (with_reducible refine (spec_wdIf.calls k (fun k_ => some k_ = (.slice Ao10 t372.length co10 : Value).ownBlock) (.slice Ao10 t372.length co10) t372 t375 t378 w _ ?side1 ?side2 A8.out).mono ?_); (case side1 => repeat (first | (with_reducible first | exact HB.out | apply below_alloc | apply pw_below_drewN | apply below_drew1) | exact HB.out)); (case side2 => exact Kd.R_tight rfl HO374.out); rintro e w11 ⟨v376, rfl, ho0, hb, hkp⟩; refine ⟨_, rfl, ?_⟩; have HO377 := Aside0.mk (Kd.R_mono (ok' := fun k_ => True) ho0 (fun k_ hk_ => trivial)); replace HB := Aside0.mk (hb); clear HO374; (try clear hb); (try clear hkp); (try clear ho0)))
 go_ret2
 exact ⟨_, by first | rfl | (simp [errW_none, errW_some] <;> rfl) | (simp [*, errW_none, errW_some] <;> rfl), xR HO377.out, xB HB.out⟩
/-! ### impl_at: function 279 -/
def impl_at.f (l0 : List Int) (a1 : Int) : Option (Int) := (impl_in.f a1 0 (wrap64 ((l0.length : Int) - 1))).bind fun t379 => (if t379 = true then (if 0 ≤ a1 then (if a1 < (l0.length : Int) then (some (rd l0 a1)) else (none)) else (none)) else (some 0))
set_option maxHeartbeats 8000000 in
set_option maxRecDepth 100000 in
theorem impl_at.calls (A0 : Option Addr) (c0 : Nat) (l0 : List Int) (a1 : Int) (r : Int) (w : World) (hr0 : Kd.C (Kd.int .i64) w A0 l0.length l0) (hc0 : l0.length ≤ c0) (h : impl_at.f l0 a1 = some r) :
  Calls Try.prog 279 #[.slice A0 l0.length c0, .int .i64 a1] w fun e w' => e = .returned (.int .i64 r) ∧ Drawn0 w w' := by
 have HR0 := Aside0.mk hr0
 have HC0 := Aside0.mk hc0
 clear hr0 hc0
 have H : ((impl_in.f a1 0 (wrap64 ((l0.length : Int) - 1))).bind fun t379 => (if t379 = true then (if 0 ≤ a1 then (if a1 < (l0.length : Int) then (some (rd l0 a1)) else (none)) else (none)) else (some 0))) = some r := h
 clear h
 obtain ⟨t379, A3, H⟩ := xO H
 (try dsimp only at H)
 by_cases c4 : t379 = true
 rotate_left
 ·replace c4 := Bool.eq_false_iff.mpr c4
  subst c4
  rw [if_neg (show ¬ (false = true) by decide)] at H
  obtain rfl := Option.some.inj H
  go_enter Try.func279, Try.ntmps279
  go_wp2_with (first | (refine xG (some 9) Try.func223 #[.int .i64 a1, .int .i64 0, .int .i64 (wrap64 ((l0.length : Int) - 1))] ?_; (with_reducible refine (impl_in.calls a1 0 (wrap64 ((l0.length : Int) - 1)) false _ A3.out).mono ?_); rintro e w' ⟨rfl, ⟨nd, rfl⟩⟩; refine ⟨_, rfl, ?_⟩))
  go_ret
  exact ⟨by first | rfl | (simp; done) | (simp [*]; done), by repeat (first | exact Drawn0.refl _ | apply Drawn0.step)⟩

 subst c4
 rw [if_pos rfl] at H
 by_cases c5 : 0 ≤ a1
 rotate_left
 ·rw [if_neg c5] at H
  exact absurd H (by simp)
 rw [if_pos c5] at H
 have c5b0 : decide (0 ≤ a1) = true := decide_eq_true c5
 clear c5
 by_cases c6 : a1 < (l0.length : Int)
 rotate_left
 ·rw [if_neg c6] at H
  exact absurd H (by simp)
 rw [if_pos c6] at H
 have c6b0 : decide (a1 < (l0.length : Int)) = true := decide_eq_true c6
 clear c6
 obtain rfl := Option.some.inj H
 go_enter Try.func279, Try.ntmps279
 go_wp2_with (first | (refine xG (some 9) Try.func223 #[.int .i64 a1, .int .i64 0, .int .i64 (wrap64 ((l0.length : Int) - 1))] ?_; (with_reducible refine (impl_in.calls a1 0 (wrap64 ((l0.length : Int) - 1)) true _ A3.out).mono ?_); rintro e w' ⟨rfl, ⟨nd, rfl⟩⟩; refine ⟨_, rfl, ?_⟩; have p380 : 0 ≤ (a1 : Int) := of_decide_eq_true (by first | (with_reducible assumption) | assumption); have q380 : a1 < (l0.length : Int) := of_decide_eq_true (by first | (with_reducible assumption) | assumption); obtain ⟨ad380, e380, hx380_0⟩ := Kd.at_int HR0.out a1 p380 q380; cases e380; replace p380 := eq_true p380; replace q380 := eq_true q380))
 go_ret
 exact ⟨by first | rfl | (simp; done) | (simp [*]; done), by repeat (first | exact Drawn0.refl _ | apply Drawn0.step)⟩
/-! ### impl_phasesOf: function 353 -/
def impl_phasesOf.l0 : Nat → List Int → Int → List (List Int) → Int → Int → Option ((List (List Int)))
 | 0, _, _, _, _, _ => none
 | k + 1, x0, x1, x5, x8, x9 => if x9 < x8 then ((impl_drop.f k x0 x1 x9).bind fun t384 => (if x5.length < 5864062014805 then (impl_phasesOf.l0 k x0 x1 (x5 ++ [t384]) x8 (wrap64 (x9 + 1))) else (none))) else (some x5)
def impl_phasesOf.f (k : Nat) (l0 : List Int) (a1 : Int) : Option ((List (List Int))) := impl_phasesOf.l0 k l0 a1 (([] : List (List Int))) a1 0
theorem impl_phasesOf.mono_l : ∀ k, (∀ y0 y1 y2 y3 y4, LeO (impl_phasesOf.l0 k y0 y1 y2 y3 y4) (impl_phasesOf.l0 (k + 1) y0 y1 y2 y3 y4))
 | 0 => fun _ _ _ _ _ r h => by simp [impl_phasesOf.l0] at h
 | k + 1 => by
  have ih0 := impl_phasesOf.mono_l k
  have m0 := @impl_drop.mono
  intros
  unfold impl_phasesOf.l0
  exact xM
theorem impl_phasesOf.mono : ∀ a0 a1 k, LeO (impl_phasesOf.f k a0 a1) (impl_phasesOf.f (k + 1) a0 a1) := by
 intro a0 a1 k
 have ih0 := impl_phasesOf.mono_l k
 have m0 := @impl_drop.mono
 unfold impl_phasesOf.f
 exact xM
set_option maxHeartbeats 8000000 in
set_option maxRecDepth 100000 in
theorem impl_phasesOf.calls (k : Nat) (A0 : Option Addr) (c0 : Nat) (l0 : List Int) (a1 : Int) (r : List (List Int)) (w : World) (hr0 : Kd.C (Kd.int .i64) w A0 l0.length l0) (hc0 : l0.length ≤ c0) (h : impl_phasesOf.f k l0 a1 = some r) :
  Calls Try.prog 353 #[.slice A0 l0.length c0, .int .i64 a1] w fun e w' => ∃ v0_ : Value, e = .returned (v0_) ∧ Kd.S (Kd.slice 3 (Kd.int .i64)) 24 w' w.heap.size (fun _ => True) v0_ r ∧ Below w.heap.size w w' := by
 have HR0 := Aside0.mk hr0
 have HC0 := Aside0.mk hc0
 clear hr0 hc0
 have HB := Aside0.mk (Below.refl w.heap.size w)
 have H : (impl_phasesOf.l0 k l0 a1 (([] : List (List Int))) a1 0) = some r := h
 clear h
 obtain ⟨y381, hy381⟩ : ∃ y_ : List (List Int), y_ = (([] : List (List Int))) := ⟨_, rfl⟩
 replace H : (impl_phasesOf.l0 k l0 a1 y381 a1 0) = some r := by first | (rw [hy381]; with_reducible exact H) | (have H2_ := (Option.bind_some _ _).symm.trans H; rw [hy381]; with_reducible exact H2_) | (have H2_ := (Option.bind_some _ _).symm.trans H; with_reducible exact H2_) | with_reducible exact H | (rw [hy381]; exact H) | exact H
 have Ny381 := Aside0.mk hy381
 clear hy381
 have H' := Aside0.mk H
 clear H
 go_enter Try.func353, Try.ntmps353
 go_wp2_with (first | ((with_reducible refine gate_dst (N := 7) rfl ?_); refine Kd.S_lit (Kd.slice 3 (Kd.int .i64)) _ 24 ?hg (N := 7) ?hd (xs := ([] : List (List Int))) (inner := []) (ok := fun _ => True) (okp := fun _ => True) ?hr ?hp (fun _ hk => hk) trivial (Below.refl _ _) (Nat.le_refl _) (by simp) ?_; (case hd => rfl); (case hg => rfl); (case hr => first | (go_simp; done) | (go_simp; rfl)); (case hp => exact (Reps.none _ _)); intro v382 w3 ho4 hb hg_ hnew_; clear hg_ hnew_; (first | rw [← Ny381.out] at ho4 | (simp only [Int.reduceToNat] at ho4; rw [← Ny381.out] at ho4)); have HO383 := Aside0.mk (Kd.S_lower ho4 (below_size (xB HB.out))); replace HB := Aside0.mk (below_step (xB HB.out) hb); clear hb ho4))
 go_loopg [5, 9] k (fun kq v5 v9 w' => ∃ (x5_1 : List (List Int)) (x9_1 : Int), v9 = .int .i64 x9_1 ∧ Aside0 (impl_phasesOf.l0 kq l0 a1 x5_1 a1 x9_1 = some r) ∧ Aside0 (kq ≤ k) ∧ Aside0 (Kd.S (Kd.slice 3 (Kd.int .i64)) 24 w' w.heap.size (fun _ => True) v5 x5_1) ∧ Aside0 (Below w.heap.size w w'))
 case atStart => exact ⟨(y381), (0), (by first | rfl | (simp; done) | (simp [*]; done)), H', ⟨Nat.le_refl _⟩, ⟨xS HO383.out⟩, ⟨xB HB.out⟩⟩
 case round =>
  clear H'
  obtain ⟨x5_1, x9_1, rfl, HA, HK1, HO_5, HB⟩ := hrel
  cases gk with
  | zero => exact absurd HA.out (by simp [impl_phasesOf.l0])
  | succ k1 =>
   have H := HA.out
   clear HA
   simp only [impl_phasesOf.l0] at H
   by_cases c5 : x9_1 < a1
   rotate_left
   ·rw [if_neg c5] at H
    have c5b0 : decide (x9_1 < a1) = false := decide_eq_false c5
    clear c5
    obtain rfl := Option.some.inj H
    go_wp2
    go_ret
    exact ⟨_, by first | rfl | (simp [errW_none, errW_some] <;> rfl) | (simp [*, errW_none, errW_some] <;> rfl), xS HO_5.out, xB HB.out⟩

   rw [if_pos c5] at H
   have c5b0 : decide (x9_1 < a1) = true := decide_eq_true c5
   clear c5
   obtain ⟨t384, A6, H⟩ := xO H
   (try dsimp only at H)
   by_cases c7 : x5_1.length < 5864062014805
   rotate_left
   ·rw [if_neg c7] at H
    exact absurd H (by simp)
   rw [if_pos c7] at H
   have LMc7 := Aside0.mk c7
   clear c7
   obtain ⟨y387, hy387⟩ : ∃ y_ : List (List Int), y_ = (x5_1 ++ [t384]) := ⟨_, rfl⟩
   replace H : (impl_phasesOf.l0 k1 l0 a1 y387 a1 (wrap64 (x9_1 + 1))) = some r := by first | (rw [hy387]; with_reducible exact H) | (have H2_ := (Option.bind_some _ _).symm.trans H; rw [hy387]; with_reducible exact H2_) | (have H2_ := (Option.bind_some _ _).symm.trans H; with_reducible exact H2_) | with_reducible exact H | (rw [hy387]; exact H) | exact H
   have Ny387 := Aside0.mk hy387
   clear hy387
   have H' := Aside0.mk H
   clear H
   go_wp2_with (first | (refine xG (some 16) Try.func323 #[.slice A0 l0.length c0, .int .i64 a1, .int .i64 x9_1] ?_; (with_reducible refine (impl_drop.calls k1 _ _ l0 a1 x9_1 t384 _ ?side1 ?side2 A6.out).mono ?_); (case side1 => exact xC (Kd.C_below HR0.out HB.out)); (case side2 => exact HC0.out); rintro e w8 ⟨v385, rfl, ho0, hb⟩; refine ⟨_, rfl, ?_⟩; replace HO_5 := Aside0.mk (Kd.S_elder' (xS HO_5.out) (Kd.R_base ho0) hb); have HO386 := Aside0.mk (Kd.R_lower ho0 (below_size (xB HB.out))); replace HB := Aside0.mk (below_step (xB HB.out) hb); (try clear hb); (try clear hb2); (try clear hk); (try clear hi); (try clear ho0); obtain ⟨Ao10, co10, eo10⟩ := Kd.R_slice HO386.out; subst eo10) | ((with_reducible refine gate_builtin (b := .append) (xs := #[.tmp 12, .tmp 17]) rfl ?_); at_builtin; refine Kd.S_append (Kd.slice 3 (Kd.int .i64)) (w0 := w) w.heap.size rfl (.tmp 12) (.tmp 17) 77 24 (.slice none 0 0) 24 rfl Try.underlying77 info24 rfl (by decide) (by omega) u5 x5_1 t384 [.slice Ao10 t384.length co10] (fun _ => True) (fun k_ => some k_ = (.slice Ao10 t384.length co10 : Value).ownBlock) rfl rfl ?aP (fun k_ hk_ => ((Kd.R_mono (ok' := fun k_ => ((fun _ => True)) k_ ∧ some k_ ≠ (u5 : Value).ownBlock) (Kd.R_apart' (HO386.out) (Kd.S_typed HO_5.out) (by decide)) (fun k_ hk => ⟨trivial, hk.2⟩))).1 k_ hk_.symm) ?aF ?aO ?aB ?aS ?aL ?_; (case aP => exact Kd.M_row (Kd.R_mono (Kd.R_tight rfl (Kd.R_mono (ok' := fun k_ => ((fun _ => True)) k_ ∧ some k_ ≠ (u5 : Value).ownBlock) (Kd.R_apart' (HO386.out) (Kd.S_typed HO_5.out) (by decide)) (fun k_ hk => ⟨trivial, hk.2⟩))) (fun _ h_ => h_))); (case aB => exact (xB HB.out)); (case aF => exact (fun _ _ => trivial)); (case aO => exact (by (with_reducible repeat (first | apply Kd.S_alloc | apply Kd.S_drewN | apply Kd.S_drew)); exact Kd.S_mono HO_5.out (fun k_ hk => ⟨trivial, fun e_ => hk.2 e_⟩))); (case aS => exact (below_size (xB HB.out))); (case aL => have := LMc7.out; omega); intro v388 w9 ho hb hg hat; rw [← Ny387.out] at ho; replace HB := Aside0.mk (hb); have HO389 := Aside0.mk (ho); clear HO_5 HO386; clear ho hb hg hat))
   go_roundg k1
   case measure => have := HK1.out; omega
   case rel => exact ⟨(y387), (wrap64 (x9_1 + 1)), (by first | rfl | (simp; done) | (simp [*]; done)), H', ⟨by have := HK1.out; omega⟩, ⟨xS HO389.out⟩, ⟨xB HB.out⟩⟩
end Go.Proofs.Ytjplcongellcmaa.PFnPhasesWork
