/- What each Go function that the statement FnExactCountOutputs reaches answers, proved call by call. No condition beyond those that the theorems print. (Written by wip/tools/xprint.py of this repo, over the kit's print.) -/
import Derived.Test.YtjplcongellcmaaDoorPFnExactCountOutputsx0
import Derived.Test.YtjplcongellcmaaDoorPFnExactCountOutputsx1
import Derived.Test.YtjplcongellcmaaDoorPFnExactCountOutputsx2
import Derived.Test.YtjplcongellcmaaDoorPFnExactCountOutputsx3
namespace Go.Proofs.YtjplcongellcmaaDoor.PFnExactCountOutputs
open Go.RowKit Go.Proofs.YtjplcongellcmaaDoorW.PrintWords Go.Proofs.YtjplcongellcmaaDoorW.PrintLast Go.Proofs.YtjplcongellcmaaDoorW.PrintMore
attribute [local go_sem] max2_int min2_int max_two min_two max_three min_three max_four min_four   -- for this text's walks alone
set_option linter.unusedVariables false
set_option linter.unusedSimpArgs false

/-! ### spec_chTake: function 62 -/
def spec_chTake.l0 : Nat → List (S79) → List (S79) → List Int → Int → Int → Option ((List (S79)))
 | 0, _, _, _, _, _ => none
 | k + 1, x0, x5, x8, x9, x10 => if x10 < x9 then (if 0 ≤ x10 then (if x10 < (x8.length : Int) then (if 0 ≤ (rd x8 x10) then (if (rd x8 x10) < (x0.length : Int) then (if x5.length < 3518437208883 then (spec_chTake.l0 k x0 (x5 ++ [(⟨(rd_T79 x0 (rd x8 x10)).f0, (rd_T79 x0 (rd x8 x10)).f1, (rd_T79 x0 (rd x8 x10)).f2, (⟨(rd_T79 x0 (rd x8 x10)).f3.f0, (rd_T79 x0 (rd x8 x10)).f3.f1⟩ : S77)⟩ : S79)]) x8 x9 (wrap64 (x10 + 1))) else (none)) else (none)) else (none)) else (none)) else (none)) else (some x5)
def spec_chTake.f (k : Nat) (l0 : List (S79)) (l1 : List Int) : Option ((List (S79))) := spec_chTake.l0 k l0 ([] : List (S79)) l1 (l1.length : Int) 0
theorem spec_chTake.mono_l : ∀ k, (∀ y0 y1 y2 y3 y4, LeO (spec_chTake.l0 k y0 y1 y2 y3 y4) (spec_chTake.l0 (k + 1) y0 y1 y2 y3 y4))
 | 0 => fun _ _ _ _ _ r h => by simp [spec_chTake.l0] at h
 | k + 1 => by
  have ih0 := spec_chTake.mono_l k
  intros
  unfold spec_chTake.l0
  exact xM
theorem spec_chTake.mono : ∀ a0 a1 k, LeO (spec_chTake.f k a0 a1) (spec_chTake.f (k + 1) a0 a1) := by
 intro a0 a1 k
 have ih0 := spec_chTake.mono_l k
 unfold spec_chTake.f
 exact xM
set_option maxHeartbeats 200000000 in
set_option maxRecDepth 100000 in
theorem spec_chTake.calls (k : Nat) (A0 : Option Addr) (c0 : Nat) (l0 : List (S79)) (A1 : Option Addr) (c1 : Nat) (l1 : List Int) (r : List (S79)) (w : World) (hr0 : Kd.C k79 w A0 l0.length l0) (hc0 : l0.length ≤ c0) (hr1 : Kd.C (Kd.int .i64) w A1 l1.length l1) (hc1 : l1.length ≤ c1) (h : spec_chTake.f k l0 l1 = some r) :
  Calls Tryd.prog 62 #[.slice A0 l0.length c0, .slice A1 l1.length c1] w fun e w' => ∃ v0_ : Value, e = .returned (v0_) ∧ Kd.R k79 79 w' w.heap.size (fun _ => True) v0_ r ∧ Below w.heap.size w w' := by
 have hu79 := Tryd.underlying79
 have HR0 := xA hr0
 have HC0 := xA hc0
 clear hr0 hc0
 have HR1 := xA hr1
 have HC1 := xA hc1
 clear hr1 hc1
 have HB := xA (Below.refl w.heap.size w)
 have H : (spec_chTake.l0 k l0 ([] : List (S79)) l1 (l1.length : Int) 0) = some r := h
 clear h
 have H' := xA H
 clear H
 go_enter Tryd.func62, Tryd.ntmps62
 go_wp2
 go_loopg [5, 10] k (fun kq v5 v10 w' => ∃ (x5_1 : List (S79)) (x10_1 : Int), v10 = .int .i64 x10_1 ∧ Aside0 (spec_chTake.l0 kq l0 x5_1 l1 (l1.length : Int) x10_1 = some r) ∧ Aside0 (kq ≤ k) ∧ Aside0 (Kd.R k79 79 w' w.heap.size (fun _ => True) v5 x5_1) ∧ Aside0 (Below w.heap.size w w'))
 case atStart => exact ⟨(([] : List (S79))), (0), xs, H', ⟨Nat.le_refl _⟩, ⟨by first | exact Kd.R_nil _ _ _ _ _ | exact Kd.N_nil _ _ _ _ _ | exact Kd.V_nil _ _ _ _ _ | exact Kd.Q_nil _ _ _ _ _ | exact Kd.S_nil _ _ _ _ _⟩, ⟨xB HB.out⟩⟩
 case round =>
  clear H'
  try clear c1
  obtain ⟨x5_1, x10_1, rfl, HA, HK1, HO_5, HB⟩ := hrel
  cases gk with
  | zero => exact absurd HA.out (by simp [spec_chTake.l0])
  | succ k1 =>
   have H := HA.out
   clear HA
   simp only [spec_chTake.l0] at H
   by_cases c3 : x10_1 < (l1.length : Int)
   rotate_left
   ·rw [if_neg c3] at H
    have c3b0 : decide (x10_1 < (l1.length : Int)) = false := decide_eq_false c3
    clear c3
    obtain rfl := Option.some.inj H
    go_wp2
    go_ret
    exact ⟨_, xr, xR HO_5.out, xB HB.out⟩

   rw [if_pos c3] at H
   have c3b0 : decide (x10_1 < (l1.length : Int)) = true := decide_eq_true c3
   clear c3
   by_cases c4 : 0 ≤ x10_1
   rotate_left
   ·rw [if_neg c4] at H
    exact absurd H (by simp)
   rw [if_pos c4] at H
   have c4b0 : decide (0 ≤ x10_1) = true := decide_eq_true c4
   clear c4
   by_cases c5 : x10_1 < (l1.length : Int)
   rotate_left
   ·rw [if_neg c5] at H
    exact absurd H (by simp)
   rw [if_pos c5] at H
   have c5b0 : decide (x10_1 < (l1.length : Int)) = true := decide_eq_true c5
   clear c5
   by_cases c6 : 0 ≤ (rd l1 x10_1)
   rotate_left
   ·rw [if_neg c6] at H
    exact absurd H (by simp)
   rw [if_pos c6] at H
   have c6b0 : decide (0 ≤ (rd l1 x10_1)) = true := decide_eq_true c6
   clear c6
   by_cases c7 : (rd l1 x10_1) < (l0.length : Int)
   rotate_left
   ·rw [if_neg c7] at H
    exact absurd H (by simp)
   rw [if_pos c7] at H
   have c7b0 : decide ((rd l1 x10_1) < (l0.length : Int)) = true := decide_eq_true c7
   clear c7
   by_cases c8 : x5_1.length < 3518437208883
   rotate_left
   ·rw [if_neg c8] at H
    exact absurd H (by simp)
   rw [if_pos c8] at H
   have LMc8 := xA c8
   clear c8
   obtain ⟨y183, hy183⟩ : ∃ y_ : List (S79), y_ = (x5_1 ++ [(⟨(rd_T79 l0 (rd l1 x10_1)).f0, (rd_T79 l0 (rd l1 x10_1)).f1, (rd_T79 l0 (rd l1 x10_1)).f2, (⟨(rd_T79 l0 (rd l1 x10_1)).f3.f0, (rd_T79 l0 (rd l1 x10_1)).f3.f1⟩ : S77)⟩ : S79)]) := ⟨_, rfl⟩
   replace H : (spec_chTake.l0 k1 l0 y183 l1 (l1.length : Int) (wrap64 (x10_1 + 1))) = some r := by first | (rw [hy183]; with_reducible exact H) | (have H2_ := (Option.bind_some _ _).symm.trans H; rw [hy183]; with_reducible exact H2_) | (have H2_ := (Option.bind_some _ _).symm.trans H; with_reducible exact H2_) | with_reducible exact H | (rw [hy183]; exact H) | exact H
   have Ny183 := xA hy183
   clear hy183
   have H' := xA H
   clear H
   have p181 : 0 ≤ (x10_1 : Int) := of_decide_eq_true (by first | (with_reducible assumption) | assumption)
   have q181 : x10_1 < (l1.length : Int) := of_decide_eq_true (by first | (with_reducible assumption) | assumption)
   obtain ⟨ad181, e181, hx181_0⟩ := Kd.at_int HR1.out x10_1 p181 q181
   cases e181
   replace hx181_0 := (HB.out.cell (World.block_lt_of_cell? w _ hx181_0)).trans hx181_0
   replace p181 := eq_true p181
   replace q181 := eq_true q181
   have p182 : 0 ≤ ((rd l1 x10_1) : Int) := of_decide_eq_true (by first | (with_reducible assumption) | assumption)
   have q182 : (rd l1 x10_1) < (l0.length : Int) := of_decide_eq_true (by first | (with_reducible assumption) | assumption)
   obtain ⟨ad182, e182, hx182_0, hx182_1, hx182_2, hx182_3, hx182_4⟩ := at_T79 HR0.out (rd l1 x10_1) p182 q182
   cases e182
   replace hx182_0 := (HB.out.cell (World.block_lt_of_cell? w _ hx182_0)).trans hx182_0
   replace hx182_1 := (HB.out.cell (World.block_lt_of_cell? w _ hx182_1)).trans hx182_1
   replace hx182_2 := (HB.out.cell (World.block_lt_of_cell? w _ hx182_2)).trans hx182_2
   replace hx182_3 := (HB.out.cell (World.block_lt_of_cell? w _ hx182_3)).trans hx182_3
   replace hx182_4 := (HB.out.cell (World.block_lt_of_cell? w _ hx182_4)).trans hx182_4
   replace p182 := eq_true p182
   replace q182 := eq_true q182
   go_wp2_with (first | ((with_reducible refine gate_builtin (b := .append) (xs := #[.tmp 14, .tmp 19]) rfl ?_); at_builtin; refine Kd.R_append k79 (w0 := w) w.heap.size rfl (.tmp 14) (.tmp 19) 42 79 (.agg #[(.int .i64 0), (.int .i64 0), (.int .i64 0), (.int .i64 0), (.bool false)]) 40 rfl Tryd.underlying42 info79 rfl (by decide) (by omega) u5 x5_1 (⟨(rd_T79 l0 (rd l1 x10_1)).f0, (rd_T79 l0 (rd l1 x10_1)).f1, (rd_T79 l0 (rd l1 x10_1)).f2, (⟨(rd_T79 l0 (rd l1 x10_1)).f3.f0, (rd_T79 l0 (rd l1 x10_1)).f3.f1⟩ : S77)⟩ : S79) [.int .i64 ((rd_T79 l0 (rd l1 x10_1)).f0), .int .i64 ((rd_T79 l0 (rd l1 x10_1)).f1), .int .i64 ((rd_T79 l0 (rd l1 x10_1)).f2), .int .i64 ((rd_T79 l0 (rd l1 x10_1)).f3.f0), .bool ((rd_T79 l0 (rd l1 x10_1)).f3.f1)] (fun _ => True) (fun _ => False) rfl rfl ?aP (fun _ hk => hk.elim) ?aF ?aO ?aB ?aS ?aL ?_; (case aP => exact k79_mkM _ _ _ (⟨(rd_T79 l0 (rd l1 x10_1)).f0, (rd_T79 l0 (rd l1 x10_1)).f1, (rd_T79 l0 (rd l1 x10_1)).f2, (⟨(rd_T79 l0 (rd l1 x10_1)).f3.f0, (rd_T79 l0 (rd l1 x10_1)).f3.f1⟩ : S77)⟩ : S79)); (case aB => exact (xB HB.out)); (case aF => exact (fun _ _ => trivial)); (case aO => exact (xR HO_5.out)); (case aS => exact (below_size (xB HB.out))); (case aL => have := LMc8.out; omega); intro v184 w9 ho hb hg hat; rw [← Ny183.out] at ho; replace HB := xA (hb); have HO185 := xA (ho); clear HO_5; clear ho hb hg hat))
   go_roundg k1
   case measure => have := HK1.out; omega
   case rel => exact ⟨(y183), (wrap64 (x10_1 + 1)), xs, H', ⟨by have := HK1.out; omega⟩, ⟨xR HO185.out⟩, ⟨xB HB.out⟩⟩
/-! ### spec_l1Same: function 63 -/
def spec_l1Same.l0 : Nat → List Int → List Int → Int → Int → Option (Bool)
 | 0, _, _, _, _ => none
 | k + 1, x0, x1, x12, x13 => if x13 < x12 then (if 0 ≤ x13 then (if x13 < (x0.length : Int) then (if x13 < (x1.length : Int) then (if (rd x0 x13) = (rd x1 x13) then (spec_l1Same.l0 k x0 x1 x12 (wrap64 (x13 + 1))) else (some false)) else (none)) else (none)) else (none)) else (some true)
def spec_l1Same.f (k : Nat) (l0 : List Int) (l1 : List Int) : Option (Bool) := if (l0.length : Int) = (l1.length : Int) then (spec_l1Same.l0 k l0 l1 (l0.length : Int) 0) else (some false)
theorem spec_l1Same.mono_l : ∀ k, (∀ y0 y1 y2 y3, LeO (spec_l1Same.l0 k y0 y1 y2 y3) (spec_l1Same.l0 (k + 1) y0 y1 y2 y3))
 | 0 => fun _ _ _ _ r h => by simp [spec_l1Same.l0] at h
 | k + 1 => by
  have ih0 := spec_l1Same.mono_l k
  intros
  unfold spec_l1Same.l0
  exact xM
theorem spec_l1Same.mono : ∀ a0 a1 k, LeO (spec_l1Same.f k a0 a1) (spec_l1Same.f (k + 1) a0 a1) := by
 intro a0 a1 k
 have ih0 := spec_l1Same.mono_l k
 unfold spec_l1Same.f
 exact xM
set_option maxHeartbeats 200000000 in
set_option maxRecDepth 100000 in
theorem spec_l1Same.calls (k : Nat) (A0 : Option Addr) (c0 : Nat) (l0 : List Int) (A1 : Option Addr) (c1 : Nat) (l1 : List Int) (r : Bool) (w : World) (hr0 : Kd.C (Kd.int .i64) w A0 l0.length l0) (hc0 : l0.length ≤ c0) (hr1 : Kd.C (Kd.int .i64) w A1 l1.length l1) (hc1 : l1.length ≤ c1) (h : spec_l1Same.f k l0 l1 = some r) :
  Calls Tryd.prog 63 #[.slice A0 l0.length c0, .slice A1 l1.length c1] w fun e w' => e = .returned (.bool r) ∧ Drawn0 w w' := by
 have HR0 := xA hr0
 have HC0 := xA hc0
 clear hr0 hc0
 have HR1 := xA hr1
 have HC1 := xA hc1
 clear hr1 hc1
 have H : (if (l0.length : Int) = (l1.length : Int) then (spec_l1Same.l0 k l0 l1 (l0.length : Int) 0) else (some false)) = some r := h
 clear h
 by_cases c3 : (l0.length : Int) = (l1.length : Int)
 rotate_left
 ·rw [if_neg c3] at H
  have c3b0 : ((l0.length : Int) == (l1.length : Int)) = false := beq_eq_false_iff_ne.mpr c3
  have c3b1 : ((l0.length : Int) != (l1.length : Int)) = true := bne_iff_ne.mpr c3
  have c3b2 : (l0.length == l1.length) = false := by first | simpa using c3 | (simp at c3 ⊢; omega)
  obtain rfl := Option.some.inj H
  go_enter Tryd.func63, Tryd.ntmps63
  go_wp2
  repeat (go_quiet (fail); try go_wp2)
  go_ret
  exact ⟨by first | rfl | (simp; done) | (simp [*]; done), by repeat (first | exact Drawn0.refl _ | apply Drawn0.step)⟩

 rw [if_pos c3] at H
 have c3b0 : ((l0.length : Int) == (l1.length : Int)) = true := beq_iff_eq.mpr c3
 have c3b1 : ((l0.length : Int) != (l1.length : Int)) = false := bne_eq_false_iff_eq.mpr c3
 have c3b2 : (l0.length == l1.length) = true := by first | simpa using c3 | (simp at c3 ⊢; omega)
 clear c3
 have H' := xA H
 clear H
 go_enter Tryd.func63, Tryd.ntmps63
 go_wp2
 repeat (go_quiet (fail); try go_wp2)
 go_loopg [13] k (fun kq v13 w' => ∃ (x13_1 : Int), v13 = .int .i64 x13_1 ∧ Aside0 (spec_l1Same.l0 kq l0 l1 (l0.length : Int) x13_1 = some r) ∧ Aside0 (kq ≤ k) ∧ Drawn0 w w')
 case atStart => exact ⟨(0), xs, H', ⟨Nat.le_refl _⟩, by repeat (first | exact Drawn0.refl _ | apply Drawn0.step)⟩
 case round =>
  clear H'
  try clear c1
  try clear c3b0
  try clear c3b1
  try clear c3b2
  obtain ⟨x13_1, rfl, HA, HK1, ⟨m1, rfl⟩⟩ := hrel
  cases gk with
  | zero => exact absurd HA.out (by simp [spec_l1Same.l0])
  | succ k1 =>
   have H := HA.out
   clear HA
   simp only [spec_l1Same.l0] at H
   by_cases c4 : x13_1 < (l0.length : Int)
   rotate_left
   ·rw [if_neg c4] at H
    have c4b0 : decide (x13_1 < (l0.length : Int)) = false := decide_eq_false c4
    clear c4
    obtain rfl := Option.some.inj H
    go_wp2
    repeat (go_quiet (fail); try go_wp2)
    go_ret
    exact ⟨by first | rfl | (simp; done) | (simp [*]; done), by repeat (first | exact Drawn0.refl _ | apply Drawn0.step)⟩
   rw [if_pos c4] at H
   have c4b0 : decide (x13_1 < (l0.length : Int)) = true := decide_eq_true c4
   clear c4
   by_cases c5 : 0 ≤ x13_1
   rotate_left
   ·rw [if_neg c5] at H
    exact absurd H (by simp)
   rw [if_pos c5] at H
   have c5b0 : decide (0 ≤ x13_1) = true := decide_eq_true c5
   clear c5
   by_cases c6 : x13_1 < (l0.length : Int)
   rotate_left
   ·rw [if_neg c6] at H
    exact absurd H (by simp)
   rw [if_pos c6] at H
   have c6b0 : decide (x13_1 < (l0.length : Int)) = true := decide_eq_true c6
   clear c6
   by_cases c7 : x13_1 < (l1.length : Int)
   rotate_left
   ·rw [if_neg c7] at H
    exact absurd H (by simp)
   rw [if_pos c7] at H
   have c7b0 : decide (x13_1 < (l1.length : Int)) = true := decide_eq_true c7
   clear c7
   by_cases c8 : (rd l0 x13_1) = (rd l1 x13_1)
   rotate_left
   ·rw [if_neg c8] at H
    have c8b0 : ((rd l0 x13_1) == (rd l1 x13_1)) = false := beq_eq_false_iff_ne.mpr c8
    have c8b1 : ((rd l0 x13_1) != (rd l1 x13_1)) = true := bne_iff_ne.mpr c8
    obtain rfl := Option.some.inj H
    have p186 : 0 ≤ (x13_1 : Int) := of_decide_eq_true (by first | (with_reducible assumption) | assumption)
    have q186 : x13_1 < (l0.length : Int) := of_decide_eq_true (by first | (with_reducible assumption) | assumption)
    obtain ⟨ad186, e186, hx186_0⟩ := Kd.at_int HR0.out x13_1 p186 q186
    cases e186
    replace p186 := eq_true p186
    replace q186 := eq_true q186
    have p187 : 0 ≤ (x13_1 : Int) := of_decide_eq_true (by first | (with_reducible assumption) | assumption)
    have q187 : x13_1 < (l1.length : Int) := of_decide_eq_true (by first | (with_reducible assumption) | assumption)
    obtain ⟨ad187, e187, hx187_0⟩ := Kd.at_int HR1.out x13_1 p187 q187
    cases e187
    replace p187 := eq_true p187
    replace q187 := eq_true q187
    go_wp2
    repeat (go_quiet (fail); try go_wp2)
    go_ret
    exact ⟨by first | rfl | (simp; done) | (simp [*]; done), by repeat (first | exact Drawn0.refl _ | apply Drawn0.step)⟩
   rw [if_pos c8] at H
   have c8b0 : ((rd l0 x13_1) == (rd l1 x13_1)) = true := beq_iff_eq.mpr c8
   have c8b1 : ((rd l0 x13_1) != (rd l1 x13_1)) = false := bne_eq_false_iff_eq.mpr c8
   clear c8
   have H' := xA H
   clear H
   have p186 : 0 ≤ (x13_1 : Int) := of_decide_eq_true (by first | (with_reducible assumption) | assumption)
   have q186 : x13_1 < (l0.length : Int) := of_decide_eq_true (by first | (with_reducible assumption) | assumption)
   obtain ⟨ad186, e186, hx186_0⟩ := Kd.at_int HR0.out x13_1 p186 q186
   cases e186
   replace p186 := eq_true p186
   replace q186 := eq_true q186
   have p187 : 0 ≤ (x13_1 : Int) := of_decide_eq_true (by first | (with_reducible assumption) | assumption)
   have q187 : x13_1 < (l1.length : Int) := of_decide_eq_true (by first | (with_reducible assumption) | assumption)
   obtain ⟨ad187, e187, hx187_0⟩ := Kd.at_int HR1.out x13_1 p187 q187
   cases e187
   replace p187 := eq_true p187
   replace q187 := eq_true q187
   go_wp2
   repeat (go_quiet (fail); try go_wp2)
   go_roundg k1
   case measure => have := HK1.out; omega
   case rel => exact ⟨(wrap64 (x13_1 + 1)), xs, H', ⟨by have := HK1.out; omega⟩, by repeat (first | exact Drawn0.refl _ | apply Drawn0.step)⟩
/-! ### spec_CountOutputs: function 31 -/
mutual
def spec_CountOutputs.l0 : Nat → List (S79) → List Int → List (List Int) → List (List Int) → Int → Int → Option (Int × Bool)
 | 0, _, _, _, _, _, _ => none
 | k + 1, x0, x1, x6, x19, x20, x21 => if x21 < x20 then (if 0 ≤ x21 then (if x21 < (x19.length : Int) then ((spec_chTake.f k x0 (rd_L6 x19 x21)).bind fun t193 => ((spec_chRun.f k t193 x1).bind fun t196 => (spec_CountOutputs.l1 k x0 x1 x6 t196 false x19 x20 x21 x6 (x6.length : Int) 0))) else (none)) else (none)) else (some ((x6.length : Int), true))
def spec_CountOutputs.l1 : Nat → List (S79) → List Int → List (List Int) → List Int → Bool → List (List Int) → Int → Int → List (List Int) → Int → Int → Option (Int × Bool)
 | 0, _, _, _, _, _, _, _, _, _, _, _ => none
 | k + 1, x0, x1, x6, x9, x10, x19, x20, x21, x30, x31, x32 => if x32 < x31 then (if 0 ≤ x32 then (if x32 < (x30.length : Int) then (if x10 = true then (spec_CountOutputs.l1 k x0 x1 x6 x9 true x19 x20 x21 x30 x31 (wrap64 (x32 + 1))) else ((spec_l1Same.f k (rd_L6 x30 x32) x9).bind fun t200 => (spec_CountOutputs.l1 k x0 x1 x6 x9 t200 x19 x20 x21 x30 x31 (wrap64 (x32 + 1))))) else (none)) else (none)) else (if x10 = true then (spec_CountOutputs.l0 k x0 x1 x6 x19 x20 (wrap64 (x21 + 1))) else (if x6.length < 5864062014805 then (spec_CountOutputs.l0 k x0 x1 (x6 ++ [x9]) x19 x20 (wrap64 (x21 + 1))) else (none)))
end
def spec_CountOutputs.f (k : Nat) (l0 : List (S79)) (l1 : List Int) : Option (Int × Bool) := (spec_chAsked.f k l0 l1).bind fun t188 => (if t188 = true then ((spec_chOrders.f k (l0.length : Int)).bind fun t189 => (spec_CountOutputs.l0 k l0 l1 ([] : List (List Int)) t189 (t189.length : Int) 0)) else (some (0, false)))
theorem spec_CountOutputs.mono_l : ∀ k, (∀ y0 y1 y2 y3 y4 y5, LeO (spec_CountOutputs.l0 k y0 y1 y2 y3 y4 y5) (spec_CountOutputs.l0 (k + 1) y0 y1 y2 y3 y4 y5)) ∧ (∀ y0 y1 y2 y3 y4 y5 y6 y7 y8 y9 y10, LeO (spec_CountOutputs.l1 k y0 y1 y2 y3 y4 y5 y6 y7 y8 y9 y10) (spec_CountOutputs.l1 (k + 1) y0 y1 y2 y3 y4 y5 y6 y7 y8 y9 y10))
 | 0 => ⟨fun _ _ _ _ _ _ r h => by simp [spec_CountOutputs.l0] at h, fun _ _ _ _ _ _ _ _ _ _ _ r h => by simp [spec_CountOutputs.l1] at h⟩
 | k + 1 => by
  obtain ⟨ih0, ih1⟩ := spec_CountOutputs.mono_l k
  have m0 := @spec_chAsked.mono
  have m1 := @spec_chOrders.mono
  have m2 := @spec_chRun.mono
  have m3 := @spec_chTake.mono
  have m4 := @spec_l1Same.mono
  refine ⟨?_, ?_⟩ <;> intros
  ·unfold spec_CountOutputs.l0; exact xM
  ·unfold spec_CountOutputs.l1; exact xM
theorem spec_CountOutputs.mono : ∀ a0 a1 k, LeO (spec_CountOutputs.f k a0 a1) (spec_CountOutputs.f (k + 1) a0 a1) := by
 intro a0 a1 k
 obtain ⟨ih0, ih1⟩ := spec_CountOutputs.mono_l k
 have m0 := @spec_chAsked.mono
 have m1 := @spec_chOrders.mono
 have m2 := @spec_chRun.mono
 have m3 := @spec_chTake.mono
 have m4 := @spec_l1Same.mono
 unfold spec_CountOutputs.f
 exact xM
set_option maxHeartbeats 200000000 in
set_option maxRecDepth 100000 in
theorem spec_CountOutputs.calls (k : Nat) (A0 : Option Addr) (c0 : Nat) (l0 : List (S79)) (A1 : Option Addr) (c1 : Nat) (l1 : List Int) (r1 : Int) (r2 : Bool) (w : World) (hr0 : Kd.C k79 w A0 l0.length l0) (hc0 : l0.length ≤ c0) (hr1 : Kd.C (Kd.int .i64) w A1 l1.length l1) (hc1 : l1.length ≤ c1) (h : spec_CountOutputs.f k l0 l1 = some (r1, r2)) :
  Calls Tryd.prog 31 #[.slice A0 l0.length c0, .slice A1 l1.length c1] w fun e w' => e = .returned (.tuple #[.int .i64 r1, .bool r2]) ∧ Below w.heap.size w w' := by
 have HR0 := xA hr0
 have HC0 := xA hc0
 clear hr0 hc0
 have HR1 := xA hr1
 have HC1 := xA hc1
 clear hr1 hc1
 have HB := xA (Below.refl w.heap.size w)
 have H : ((spec_chAsked.f k l0 l1).bind fun t188 => (if t188 = true then ((spec_chOrders.f k (l0.length : Int)).bind fun t189 => (spec_CountOutputs.l0 k l0 l1 ([] : List (List Int)) t189 (t189.length : Int) 0)) else (some (0, false)))) = some (r1, r2) := h
 clear h
 obtain ⟨t188, A3, H⟩ := xO H
 (try dsimp only at H)
 by_cases c4 : t188 = true
 rotate_left
 ·replace c4 := Bool.eq_false_iff.mpr c4
  subst c4
  rw [if_neg (show ¬ (false = true) by decide)] at H
  simp only [Option.some.injEq, Prod.mk.injEq] at H
  obtain ⟨rfl, rfl⟩ := H
  go_enter Tryd.func31, Tryd.ntmps31
  go_wp2_with (first | (refine xG (some 15) Tryd.func59 #[.slice A0 l0.length c0, .slice A1 l1.length c1] ?_; (with_reducible refine (spec_chAsked.calls k _ _ l0 _ _ l1 false _ ?side1 ?side2 ?side3 ?side4 A3.out).mono ?_); (case side1 => exact xC HR0.out); (case side2 => exact HC0.out); (case side3 => exact xC HR1.out); (case side4 => exact HC1.out); rintro e w29 ⟨rfl, hb⟩; refine ⟨_, rfl, ?_⟩; replace HB := xA (below_step (xB HB.out) hb); (try clear hb)))
  go_ret2
  exact ⟨xr, xB HB.out⟩

 subst c4
 rw [if_pos rfl] at H
 obtain ⟨t189, A5, H⟩ := xO H
 (try dsimp only at H)
 have H' := xA H
 clear H
 go_enter Tryd.func31, Tryd.ntmps31
 go_wp2_with (first | (refine xq rfl ?_; first | (refine xG (some 15) Tryd.func59 #[.slice A0 l0.length c0, .slice A1 l1.length c1] ?_; (with_reducible refine (spec_chAsked.calls k _ _ l0 _ _ l1 true _ ?side1 ?side2 ?side3 ?side4 A3.out).mono ?_); (case side1 => exact xC HR0.out); (case side2 => exact HC0.out); (case side3 => exact xC HR1.out); (case side4 => exact HC1.out); rintro e w6 ⟨rfl, hb⟩; refine ⟨_, rfl, ?_⟩; replace HB := xA (below_step (xB HB.out) hb); (try clear hb)) | (refine xG (some 19) Tryd.func60 #[.int .i64 (l0.length : Int)] ?_; (with_reducible refine (spec_chOrders.calls k (l0.length : Int) t189 _ A5.out).mono ?_); rintro e w7 ⟨v190, rfl, ho0, hb⟩; refine ⟨_, rfl, ?_⟩; have HO191 := xA (Kd.S_lower ho0 (below_size (xB HB.out))); replace HB := xA (below_step (xB HB.out) hb); (try clear hb); (try clear ho0); obtain ⟨Ao8, co8, eo8⟩ := Kd.S_slice HO191.out; subst eo8)))
 go_loopg [6, 21] k (fun kq v6 v21 w' => ∃ (x6_1 : List (List Int)) (x21_1 : Int), v21 = .int .i64 x21_1 ∧ Aside0 (spec_CountOutputs.l0 kq l0 l1 x6_1 t189 (t189.length : Int) x21_1 = some (r1, r2)) ∧ Aside0 (kq ≤ k) ∧ Aside0 (Kd.S (Kd.slice 3 (Kd.int .i64)) 24 w' w.heap.size (fun k_ => some k_ ≠ ((.slice Ao8 t189.length co8) : Value).ownBlock) v6 x6_1) ∧ Aside0 (Kd.S (Kd.slice 3 (Kd.int .i64)) 24 w' w.heap.size (fun k_ => some k_ ≠ (v6 : Value).ownBlock) (.slice Ao8 t189.length co8) t189) ∧ Aside0 (Below w.heap.size w w'))
 case atStart => exact ⟨(([] : List (List Int))), (0), xs, H', ⟨Nat.le_refl _⟩, ⟨by first | exact Kd.S_nil _ _ _ _ _ | exact Kd.N_nil _ _ _ _ _ | exact Kd.V_nil _ _ _ _ _ | exact Kd.Q_nil _ _ _ _ _ | exact Kd.R_nil _ _ _ _ _⟩, ⟨by (with_reducible repeat (first | apply Kd.S_alloc | apply Kd.S_drewN | apply Kd.S_drew)); exact Kd.S_mono HO191.out (fun _ hk => (by simp [Value.ownBlock]))⟩, ⟨xB HB.out⟩⟩
 case round =>
  clear H'
  try clear c1
  try clear c4
  obtain ⟨x6_1, x21_1, rfl, HA, HK1, HO_6, HO_19, HB⟩ := hrel
  cases gk with
  | zero => exact absurd HA.out (by simp [spec_CountOutputs.l0])
  | succ k1 =>
   have H := HA.out
   clear HA
   simp only [spec_CountOutputs.l0] at H
   by_cases c9 : x21_1 < (t189.length : Int)
   rotate_left
   ·rw [if_neg c9] at H
    have c9b0 : decide (x21_1 < (t189.length : Int)) = false := decide_eq_false c9
    clear c9
    simp only [Option.some.injEq, Prod.mk.injEq] at H
    obtain ⟨rfl, rfl⟩ := H
    obtain ⟨Ao28, co28, eo28⟩ := Kd.S_slice HO_6.out
    subst eo28
    go_wp2
    go_ret2
    exact ⟨xr, xB HB.out⟩
   rw [if_pos c9] at H
   have c9b0 : decide (x21_1 < (t189.length : Int)) = true := decide_eq_true c9
   clear c9
   by_cases c10 : 0 ≤ x21_1
   rotate_left
   ·rw [if_neg c10] at H
    exact absurd H (by simp)
   rw [if_pos c10] at H
   have c10b0 : decide (0 ≤ x21_1) = true := decide_eq_true c10
   clear c10
   by_cases c11 : x21_1 < (t189.length : Int)
   rotate_left
   ·rw [if_neg c11] at H
    exact absurd H (by simp)
   rw [if_pos c11] at H
   have c11b0 : decide (x21_1 < (t189.length : Int)) = true := decide_eq_true c11
   clear c11
   obtain ⟨t193, A12, H⟩ := xO H
   (try dsimp only at H)
   obtain ⟨t196, A13, H⟩ := xO H
   (try dsimp only at H)
   have H' := xA H
   clear H
   have p192 : 0 ≤ (x21_1 : Int) := of_decide_eq_true (by first | (with_reducible assumption) | assumption)
   have q192 : x21_1 < (t189.length : Int) := of_decide_eq_true (by first | (with_reducible assumption) | assumption)
   obtain ⟨ad192, A192_0, c192_0, e192, hx192_0, hl192_0, hi192_0⟩ := at_L6 (Kd.S_reads' HO_19.out).2.2 x21_1 p192 q192
   cases e192
   obtain ⟨ce192, hce192, hMe192, hcc192⟩ := Kd.S_get HO_19.out [] x21_1 p192 (by first | exact q192 | exact of_decide_eq_true (by first | (with_reducible assumption) | assumption) | (have e_ := (Kd.S_reads' HO_19.out).1; omega))
   obtain ⟨ve192_0, rfl, ge192_0⟩ := hMe192
   have hv192_0 := hcc192 0 _ rfl
   rw [Nat.add_zero, show ((Kd.slice 3 (Kd.int .i64))).sz = 1 from rfl, Nat.mul_one] at hv192_0
   replace hv192_0 := Option.some.inj (hv192_0.symm.trans hx192_0)
   rw [hv192_0] at ge192_0
   have HL192_0 := xA (show Kd.R (Kd.int .i64) 3 _ _ _ _ (rd_L6 t189 x21_1) from ge192_0)
   clear hv192_0 ge192_0
   clear hcc192 hce192
   have HR192_0 := xA hi192_0
   have HC192_0 := xA hl192_0
   clear hi192_0 hl192_0
   replace p192 := eq_true p192
   replace q192 := eq_true q192
   go_wp2_with (first | (refine xq rfl ?_; first | (refine xG (some 27) Tryd.func62 #[.slice A0 l0.length c0, .slice A192_0 (rd_L6 t189 x21_1).length c192_0] ?_; (with_reducible refine (spec_chTake.calls k1 _ _ l0 _ _ (rd_L6 t189 x21_1) t193 _ ?side1 ?side2 ?side3 ?side4 A12.out).mono ?_); (case side1 => exact xC (Kd.C_below HR0.out HB.out)); (case side2 => exact HC0.out); (case side3 => repeat (first | exact (by repeat (first | (with_reducible exact HR192_0.out) | (with_reducible refine Kd.C_alloc ?_ _) | (with_reducible refine Kd.C_drewN ?_ _) | (with_reducible refine Kd.C_drew ?_) | exact HR192_0.out)) | (with_reducible refine Kd.C_alloc ?_ _) | (with_reducible refine Kd.C_drewN ?_ _) | (with_reducible refine Kd.C_drew ?_))); (case side4 => exact HC192_0.out); rintro e w14 ⟨v194, rfl, ho0, hb⟩; refine ⟨_, rfl, ?_⟩; replace HO_6 := xA (Kd.S_below (xS HO_6.out) hb); replace HO_19 := xA (Kd.S_below (xS HO_19.out) hb); replace HL192_0 := xA (Kd.R_below (by (with_reducible repeat (first | apply Kd.R_alloc | apply Kd.R_drewN | apply Kd.R_drew)); exact HL192_0.out) hb); have HO195 := xA (Kd.R_lower ho0 (below_size (xB HB.out))); replace HR192_0 := xA (Kd.C_below (by repeat (first | (with_reducible exact HR192_0.out) | (with_reducible refine Kd.C_alloc ?_ _) | (with_reducible refine Kd.C_drewN ?_ _) | (with_reducible refine Kd.C_drew ?_) | exact HR192_0.out)) hb); replace HB := xA (below_step (xB HB.out) hb); (try clear hb); (try clear ho0); obtain ⟨Ao15, co15, eo15⟩ := Kd.R_slice HO195.out; subst eo15) | (refine xG (some 29) Tryd.func61 #[.slice Ao15 t193.length co15, .slice A1 l1.length c1] ?_; (with_reducible refine (spec_chRun.calls k1 _ _ t193 _ _ l1 t196 _ ?side1 ?side2 ?side3 ?side4 A13.out).mono ?_); (case side1 => exact xC ((Kd.R_reads' HO195.out).2.2)); (case side2 => exact (Kd.R_reads' HO195.out).2.1); (case side3 => exact xC (Kd.C_below HR1.out HB.out)); (case side4 => exact HC1.out); rintro e w16 ⟨v197, rfl, ho0, hb⟩; refine ⟨_, rfl, ?_⟩; replace HO_6 := xA (Kd.S_elder' (xS HO_6.out) (Kd.R_base ho0) hb); replace HO_19 := xA (Kd.S_elder' (xS HO_19.out) (Kd.R_base ho0) hb); replace HO195 := xA (Kd.R_below (xR HO195.out) hb); have HO198 := xA (Kd.R_lower (Kd.R_new' ho0 (Kd.R_lt (by (with_reducible repeat (first | apply Kd.R_alloc | apply Kd.R_drewN | apply Kd.R_drew)); exact HL192_0.out))) (below_size (xB HB.out))); replace HL192_0 := xA (Kd.R_elder' (by (with_reducible repeat (first | apply Kd.R_alloc | apply Kd.R_drewN | apply Kd.R_drew)); exact HL192_0.out) (Kd.R_base ho0) hb); replace HR192_0 := xA (Kd.C_below (by repeat (first | (with_reducible exact HR192_0.out) | (with_reducible refine Kd.C_alloc ?_ _) | (with_reducible refine Kd.C_drewN ?_ _) | (with_reducible refine Kd.C_drew ?_) | exact HR192_0.out)) hb); replace HB := xA (below_step (xB HB.out) hb); (try clear hb); (try clear ho0); obtain ⟨Ao17, co17, eo17⟩ := Kd.S_slice HO_6.out; subst eo17)))
   go_loopg [10, 32] k1 (fun kq v10 v32 w' => ∃ (x10_2 : Bool) (x32_2 : Int), v10 = .bool x10_2 ∧ v32 = .int .i64 x32_2 ∧ Aside0 (spec_CountOutputs.l1 kq l0 l1 x6_1 t196 x10_2 t189 (t189.length : Int) x21_1 x6_1 (x6_1.length : Int) x32_2 = some (r1, r2)) ∧ Aside0 (kq ≤ k1) ∧ Aside0 (Kd.S (Kd.slice 3 (Kd.int .i64)) 24 w' w.heap.size (fun k_ => some k_ ≠ (v197 : Value).ownBlock ∧ some k_ ≠ ((.slice (some ad192) t189.length co8) : Value).ownBlock) (.slice Ao17 x6_1.length co17) x6_1) ∧ Aside0 (Kd.R (Kd.int .i64) 3 w' w.heap.size (fun _ => True) v197 t196) ∧ Aside0 (Kd.S (Kd.slice 3 (Kd.int .i64)) 24 w' w.heap.size (fun k_ => some k_ ≠ ((.slice Ao17 x6_1.length co17) : Value).ownBlock ∧ some k_ ≠ (v197 : Value).ownBlock ∧ some k_ ≠ ((.slice Ao17 x6_1.length co17) : Value).ownBlock) (.slice (some ad192) t189.length co8) t189) ∧ Aside0 (Kd.S (Kd.slice 3 (Kd.int .i64)) 24 w' w.heap.size (fun k_ => some k_ ≠ (v197 : Value).ownBlock ∧ some k_ ≠ ((.slice (some ad192) t189.length co8) : Value).ownBlock) (.slice Ao17 x6_1.length co17) x6_1) ∧ Aside0 (Kd.C (Kd.int .i64) w' A192_0 (rd_L6 t189 x21_1).length (rd_L6 t189 x21_1)) ∧ Aside0 (Below w.heap.size w w'))
   case atStart => exact ⟨(false), (0), xs, xs, H', ⟨Nat.le_refl _⟩, ⟨by (with_reducible repeat (first | apply Kd.S_alloc | apply Kd.S_drewN | apply Kd.S_drew)); exact Kd.S_mono HO_6.out (fun _ hk => ⟨hk.2, hk.1⟩)⟩, ⟨by (with_reducible repeat (first | apply Kd.R_alloc | apply Kd.R_drewN | apply Kd.R_drew)); exact Kd.R_mono HO198.out (fun _ hk => trivial)⟩, ⟨by (with_reducible repeat (first | apply Kd.S_alloc | apply Kd.S_drewN | apply Kd.S_drew)); exact Kd.S_mono HO_19.out (fun _ hk => ⟨hk.1, ⟨hk.2, hk.1⟩⟩)⟩, ⟨by (with_reducible repeat (first | apply Kd.S_alloc | apply Kd.S_drewN | apply Kd.S_drew)); exact Kd.S_mono HO_6.out (fun _ hk => ⟨hk.2, hk.1⟩)⟩, ⟨by repeat (first | (with_reducible exact HR192_0.out) | (with_reducible refine Kd.C_alloc ?_ _) | (with_reducible refine Kd.C_drewN ?_ _) | (with_reducible refine Kd.C_drew ?_) | exact HR192_0.out)⟩, ⟨xB HB.out⟩⟩
   case round =>
    clear H'
    try clear c9b0
    try clear c10b0
    try clear c11b0
    try clear hx192_0
    try clear p192
    try clear q192
    obtain ⟨x10_2, x32_2, rfl, rfl, HA, HK2, HO_6, HO_9, HO_19, HO_30, HR192_0, HB⟩ := hrel
    cases gk with
    | zero => exact absurd HA.out (by simp [spec_CountOutputs.l1])
    | succ k2 =>
     have H := HA.out
     clear HA
     simp only [spec_CountOutputs.l1] at H
     by_cases c18 : x32_2 < (x6_1.length : Int)
     rotate_left
     ·rw [if_neg c18] at H
      have c18b0 : decide (x32_2 < (x6_1.length : Int)) = false := decide_eq_false c18
      clear c18
      by_cases c24 : x10_2 = true
      ·subst c24
       rw [if_pos rfl] at H
       have H' := xA H
       clear H
       go_wp2
       go_roundg k2
       case measure => have := HK1.out; have := HK2.out; omega
       case rel => exact ⟨(x6_1), (wrap64 (x21_1 + 1)), xs, H', ⟨by have := HK1.out; have := HK2.out; omega⟩, ⟨by (with_reducible repeat (first | apply Kd.S_alloc | apply Kd.S_drewN | apply Kd.S_drew)); exact Kd.S_mono HO_6.out (fun _ hk => hk.2)⟩, ⟨by (with_reducible repeat (first | apply Kd.S_alloc | apply Kd.S_drewN | apply Kd.S_drew)); exact Kd.S_mono HO_19.out (fun _ hk => hk.1)⟩, ⟨xB HB.out⟩⟩
      replace c24 := Bool.eq_false_iff.mpr c24
      subst c24
      rw [if_neg (show ¬ (false = true) by decide)] at H
      by_cases c25 : x6_1.length < 5864062014805
      rotate_left
      ·rw [if_neg c25] at H
       exact absurd H (by simp)
      rw [if_pos c25] at H
      have LMc25 := xA c25
      clear c25
      obtain ⟨y201, hy201⟩ : ∃ y_ : List (List Int), y_ = (x6_1 ++ [t196]) := ⟨_, rfl⟩
      replace H : (spec_CountOutputs.l0 k2 l0 l1 y201 t189 (t189.length : Int) (wrap64 (x21_1 + 1))) = some (r1, r2) := by first | (rw [hy201]; with_reducible exact H) | (have H2_ := (Option.bind_some _ _).symm.trans H; rw [hy201]; with_reducible exact H2_) | (have H2_ := (Option.bind_some _ _).symm.trans H; with_reducible exact H2_) | with_reducible exact H | (rw [hy201]; exact H) | exact H
      have Ny201 := xA hy201
      clear hy201
      have H' := xA H
      clear H
      obtain ⟨Ao27, co27, eo27⟩ := Kd.R_slice HO_9.out
      subst eo27
      go_wp2_with (first | ((with_reducible refine gate_builtin (b := .append) (xs := #[.tmp 45, .tmp 47]) rfl ?_); at_builtin; refine Kd.S_append (Kd.slice 3 (Kd.int .i64)) (w0 := w) w.heap.size rfl (.tmp 45) (.tmp 47) 72 24 (.slice none 0 0) 24 rfl Tryd.underlying72 info24 rfl (by decide) (by omega) (.slice Ao17 x6_1.length co17) x6_1 t196 [.slice Ao27 t196.length co27] (fun k_ => some k_ ≠ (.slice (some ad192) t189.length co8 : Value).ownBlock) (fun k_ => some k_ = (.slice Ao27 t196.length co27 : Value).ownBlock) rfl rfl ?aP (fun k_ hk_ => ((Kd.R_mono (ok' := fun k_ => ((fun k_ => some k_ ≠ (.slice (some ad192) t189.length co8 : Value).ownBlock)) k_ ∧ some k_ ≠ (.slice Ao17 x6_1.length co17 : Value).ownBlock) (Kd.R_apart' (Kd.R_apart' (HO_9.out) (Kd.S_typed HO_19.out) (by decide)) (Kd.S_typed HO_6.out) (by decide)) (fun k_ hk => ⟨hk.1.2, hk.2⟩))).1 k_ hk_.symm) ?aF ?aO ?aB ?aS ?aL ?_; (case aP => exact Kd.M_row (Kd.R_mono (Kd.R_tight rfl (Kd.R_mono (ok' := fun k_ => ((fun k_ => some k_ ≠ (.slice (some ad192) t189.length co8 : Value).ownBlock)) k_ ∧ some k_ ≠ (.slice Ao17 x6_1.length co17 : Value).ownBlock) (Kd.R_apart' (Kd.R_apart' (HO_9.out) (Kd.S_typed HO_19.out) (by decide)) (Kd.S_typed HO_6.out) (by decide)) (fun k_ hk => ⟨hk.1.2, hk.2⟩))) (fun _ h_ => h_))); (case aB => exact (xB HB.out)); (case aF => exact (fun k_ hk => Kd.fresh' (Kd.S_lt (xS HO_19.out)) k_ hk)); (case aO => exact (by (with_reducible repeat (first | apply Kd.S_alloc | apply Kd.S_drewN | apply Kd.S_drew)); exact Kd.S_mono HO_6.out (fun k_ hk => ⟨hk.2, fun e_ => hk.1 e_⟩))); (case aS => exact (below_size (xB HB.out))); (case aL => have := LMc25.out; omega); intro v202 w26 ho hb hg hat; rw [← Ny201.out] at ho; replace HO_19 := xA (Kd.S_after (ok := (fun k_ => some k_ ≠ (.slice Ao27 t196.length co27 : Value).ownBlock)) (by (with_reducible repeat (first | apply Kd.S_alloc | apply Kd.S_drewN | apply Kd.S_drew)); exact Kd.S_mono HO_19.out (fun _ hk => ⟨hk.2.1, hk.1⟩)) hg hat); replace HB := xA (hb); have HO203 := xA (ho); clear HO_6 HO_9; clear ho hb hg hat))
      go_roundg k2
      case measure => have := HK1.out; have := HK2.out; omega
      case rel => exact ⟨(y201), (wrap64 (x21_1 + 1)), xs, H', ⟨by have := HK1.out; have := HK2.out; omega⟩, ⟨xS HO203.out⟩, ⟨by (with_reducible repeat (first | apply Kd.S_alloc | apply Kd.S_drewN | apply Kd.S_drew)); exact Kd.S_mono HO_19.out (fun _ hk => hk.2)⟩, ⟨xB HB.out⟩⟩
     rw [if_pos c18] at H
     have c18b0 : decide (x32_2 < (x6_1.length : Int)) = true := decide_eq_true c18
     clear c18
     by_cases c19 : 0 ≤ x32_2
     rotate_left
     ·rw [if_neg c19] at H
      exact absurd H (by simp)
     rw [if_pos c19] at H
     have c19b0 : decide (0 ≤ x32_2) = true := decide_eq_true c19
     clear c19
     by_cases c20 : x32_2 < (x6_1.length : Int)
     rotate_left
     ·rw [if_neg c20] at H
      exact absurd H (by simp)
     rw [if_pos c20] at H
     have c20b0 : decide (x32_2 < (x6_1.length : Int)) = true := decide_eq_true c20
     clear c20
     by_cases c21 : x10_2 = true
     ·subst c21
      rw [if_pos rfl] at H
      have H' := xA H
      clear H
      have p199 : 0 ≤ (x32_2 : Int) := of_decide_eq_true (by first | (with_reducible assumption) | assumption)
      have q199 : x32_2 < (x6_1.length : Int) := of_decide_eq_true (by first | (with_reducible assumption) | assumption)
      obtain ⟨ad199, A199_0, c199_0, e199, hx199_0, hl199_0, hi199_0⟩ := at_L6 (Kd.S_reads' HO_30.out).2.2 x32_2 p199 q199
      cases e199
      obtain ⟨ce199, hce199, hMe199, hcc199⟩ := Kd.S_get HO_30.out [] x32_2 p199 (by first | exact q199 | exact of_decide_eq_true (by first | (with_reducible assumption) | assumption) | (have e_ := (Kd.S_reads' HO_30.out).1; omega))
      obtain ⟨ve199_0, rfl, ge199_0⟩ := hMe199
      have hv199_0 := hcc199 0 _ rfl
      rw [Nat.add_zero, show ((Kd.slice 3 (Kd.int .i64))).sz = 1 from rfl, Nat.mul_one] at hv199_0
      replace hv199_0 := Option.some.inj (hv199_0.symm.trans hx199_0)
      rw [hv199_0] at ge199_0
      have HL199_0 := xA (show Kd.R (Kd.int .i64) 3 _ _ _ _ (rd_L6 x6_1 x32_2) from ge199_0)
      clear hv199_0 ge199_0
      clear hcc199 hce199
      have HR199_0 := xA hi199_0
      have HC199_0 := xA hl199_0
      clear hi199_0 hl199_0
      replace p199 := eq_true p199
      replace q199 := eq_true q199
      go_wp2
      go_roundg k2
      case measure => have := HK1.out; have := HK2.out; omega
      case rel => exact ⟨(true), (wrap64 (x32_2 + 1)), xs, xs, H', ⟨by have := HK1.out; have := HK2.out; omega⟩, ⟨xS HO_6.out⟩, ⟨xR HO_9.out⟩, ⟨xS HO_19.out⟩, ⟨xS HO_30.out⟩, ⟨by repeat (first | (with_reducible exact HR192_0.out) | (with_reducible refine Kd.C_alloc ?_ _) | (with_reducible refine Kd.C_drewN ?_ _) | (with_reducible refine Kd.C_drew ?_) | exact HR192_0.out)⟩, ⟨xB HB.out⟩⟩
     replace c21 := Bool.eq_false_iff.mpr c21
     subst c21
     rw [if_neg (show ¬ (false = true) by decide)] at H
     obtain ⟨t200, A22, H⟩ := xO H
     (try dsimp only at H)
     have H' := xA H
     clear H
     have p199 : 0 ≤ (x32_2 : Int) := of_decide_eq_true (by first | (with_reducible assumption) | assumption)
     have q199 : x32_2 < (x6_1.length : Int) := of_decide_eq_true (by first | (with_reducible assumption) | assumption)
     obtain ⟨ad199, A199_0, c199_0, e199, hx199_0, hl199_0, hi199_0⟩ := at_L6 (Kd.S_reads' HO_30.out).2.2 x32_2 p199 q199
     cases e199
     obtain ⟨ce199, hce199, hMe199, hcc199⟩ := Kd.S_get HO_30.out [] x32_2 p199 (by first | exact q199 | exact of_decide_eq_true (by first | (with_reducible assumption) | assumption) | (have e_ := (Kd.S_reads' HO_30.out).1; omega))
     obtain ⟨ve199_0, rfl, ge199_0⟩ := hMe199
     have hv199_0 := hcc199 0 _ rfl
     rw [Nat.add_zero, show ((Kd.slice 3 (Kd.int .i64))).sz = 1 from rfl, Nat.mul_one] at hv199_0
     replace hv199_0 := Option.some.inj (hv199_0.symm.trans hx199_0)
     rw [hv199_0] at ge199_0
     have HL199_0 := xA (show Kd.R (Kd.int .i64) 3 _ _ _ _ (rd_L6 x6_1 x32_2) from ge199_0)
     clear hv199_0 ge199_0
     clear hcc199 hce199
     have HR199_0 := xA hi199_0
     have HC199_0 := xA hl199_0
     clear hi199_0 hl199_0
     replace p199 := eq_true p199
     replace q199 := eq_true q199
     obtain ⟨Ao23, co23, eo23⟩ := Kd.R_slice HO_9.out
     subst eo23
     go_wp2_with (first | (go_at_call 63; (with_reducible refine (spec_l1Same.calls k2 _ _ (rd_L6 x6_1 x32_2) _ _ t196 t200 _ ?side1 ?side2 ?side3 ?side4 A22.out).mono ?_); (case side1 => repeat (first | exact (by repeat (first | (with_reducible exact HR199_0.out) | (with_reducible refine Kd.C_alloc ?_ _) | (with_reducible refine Kd.C_drewN ?_ _) | (with_reducible refine Kd.C_drew ?_) | exact HR199_0.out)) | (with_reducible refine Kd.C_alloc ?_ _) | (with_reducible refine Kd.C_drewN ?_ _) | (with_reducible refine Kd.C_drew ?_))); (case side2 => exact HC199_0.out); (case side3 => exact xC ((Kd.R_reads' HO_9.out).2.2)); (case side4 => exact (Kd.R_reads' HO_9.out).2.1); rintro e w' ⟨rfl, ⟨nd, rfl⟩⟩))
     go_roundg k2
     case measure => have := HK1.out; have := HK2.out; omega
     case rel => exact ⟨(t200), (wrap64 (x32_2 + 1)), xs, xs, H', ⟨by have := HK1.out; have := HK2.out; omega⟩, ⟨xS HO_6.out⟩, ⟨xR HO_9.out⟩, ⟨xS HO_19.out⟩, ⟨xS HO_30.out⟩, ⟨by repeat (first | (with_reducible exact HR192_0.out) | (with_reducible refine Kd.C_alloc ?_ _) | (with_reducible refine Kd.C_drewN ?_ _) | (with_reducible refine Kd.C_drew ?_) | exact HR192_0.out)⟩, ⟨xB HB.out⟩⟩
/-! ### laws_toWord: function 82 -/
def laws_toWord.f (a0_0 : Int) (a0_1 : Bool) : Option (Int × Bool) := some (a0_0, a0_1)
set_option maxHeartbeats 200000000 in
set_option maxRecDepth 100000 in
theorem laws_toWord.calls (a0_0 : Int) (a0_1 : Bool) (r1 : Int) (r2 : Bool) (w : World) (h : laws_toWord.f a0_0 a0_1 = some (r1, r2)) :
  Calls Tryd.prog 82 #[.agg #[.int .i64 a0_0, .bool a0_1]] w fun e w' => e = .returned (.agg #[.int .i64 r1, .bool r2]) ∧ Below w.heap.size w w' := by
 have hu81 := Tryd.underlying81
 have hu77 := Tryd.underlying77
 have HB := xA (Below.refl w.heap.size w)
 have H : (some (a0_0, a0_1)) = some (r1, r2) := h
 clear h
 simp only [Option.some.injEq, Prod.mk.injEq] at H
 obtain ⟨rfl, rfl⟩ := H
 go_enter Tryd.func82, Tryd.ntmps82
 go_wp2_with (first | (refine xg 1 rfl ?_; refine xV 1 #[.int .i64 a0_0, .bool a0_1] 81 ?_; intro gb204 hg w2 hbox hb; have BK204 := xA (hbox); have GW204 := xgw hg (below_size (xB HB.out)); have GE204 := GW204; replace HB := xA (below_step (xB HB.out) hb); clear hb hbox hg) | (refine xg 2 rfl ?_; refine xV 2 #[.int .i64 0, .bool false] 77 ?_; intro gb205 hg w3 hbox hb; have BK205 := xA (hbox); have GW205 := xgw hg (below_size (xB1 GE204.out HB.out)); have GE205 := GW205; replace HB := xA (below_step (xB1 GE204.out HB.out) hb); have NB204_205 := xnl hg BK204; have NB205_204 := xng hg BK204; replace BK204 := xkb BK204 hb; clear hb hbox hg) | (refine xg 3 rfl ?_; refine xV 3 #[.int .i64 0, .bool false] 77 ?_; intro gb206 hg w4 hbox hb; have BK206 := xA (hbox); have GW206 := xgw hg (below_size (xB2 GE204.out GE205.out HB.out)); have GE206 := GW206; replace HB := xA (below_step (xB2 GE204.out GE205.out HB.out) hb); have NB204_206 := xnl hg BK204; have NB206_204 := xng hg BK204; replace BK204 := xkb BK204 hb; have NB205_206 := xnl hg BK205; have NB206_205 := xng hg BK205; replace BK205 := xkb BK205 hb; clear hb hbox hg; have hnb5 := NB204_205.out; have hnc5 := NB205_204.out; have hnb6 := NB204_206.out; have hnc6 := NB206_204.out; replace hz204 := blk_cell BK204.out; replace hy204 := blk_frozen BK204.out; have hnb8 := NB206_205.out; have hnc8 := NB205_206.out; replace hz206 := blk_cell BK206.out; replace hy206 := blk_frozen BK206.out; obtain ⟨hcz10_0, hcz10_1, hfz10_0, hfz10_1⟩ := xZ2 BK205.out))
 refine bodyPost_ret (results_cell_row rfl _ _ gb205 77 #[.int .i64 a0_0, .bool a0_1] (0, 0) _ rfl (xPt1 NB205_206.out BK205.out) Tryd.underlying77 rfl (by kernel_rfl)) rfl ?_
 exact ⟨xr, xB3 GE204.out GE205.out GE206.out HB.out⟩

/-! ### laws_toFirst: function 64 -/
def laws_toFirst.f (a0_0 : Int) (a0_1 : Int) (a0_2 : Int) (a0_3 : Int) (a0_4 : Bool) : Option (Int × Int × Int × Int × Bool) := (laws_toWord.f a0_3 a0_4).bind fun bt210 => (some (a0_0, a0_1, a0_2, bt210.1, bt210.2))
set_option maxHeartbeats 200000000 in
set_option maxRecDepth 100000 in
theorem laws_toFirst.calls (a0_0 : Int) (a0_1 : Int) (a0_2 : Int) (a0_3 : Int) (a0_4 : Bool) (r1 : Int) (r2 : Int) (r3 : Int) (r4 : Int) (r5 : Bool) (w : World) (h : laws_toFirst.f a0_0 a0_1 a0_2 a0_3 a0_4 = some (r1, r2, r3, r4, r5)) :
  Calls Tryd.prog 64 #[.agg #[.int .i64 a0_0, .int .i64 a0_1, .int .i64 a0_2, .int .i64 a0_3, .bool a0_4]] w fun e w' => e = .returned (.agg #[.int .i64 r1, .int .i64 r2, .int .i64 r3, .int .i64 r4, .bool r5]) ∧ Below w.heap.size w w' := by
 have hu83 := Tryd.underlying83
 have hu79 := Tryd.underlying79
 have hu81 := Tryd.underlying81
 have hu77 := Tryd.underlying77
 have HB := xA (Below.refl w.heap.size w)
 have H : ((laws_toWord.f a0_3 a0_4).bind fun bt210 => (some (a0_0, a0_1, a0_2, bt210.1, bt210.2))) = some (r1, r2, r3, r4, r5) := h
 clear h
 replace H := Option.bind_eq_some_iff.mp H
 obtain ⟨⟨t210, t211⟩, A20, H⟩ := H
 (try dsimp only at H)
 have A2 := xA A20
 clear A20
 simp only [Option.some.injEq, Prod.mk.injEq] at H
 obtain ⟨rfl, rfl, rfl, rfl, rfl⟩ := H
 go_enter Tryd.func64, Tryd.ntmps64
 go_wp2_with (first | (refine xg 1 rfl ?_; refine xV 1 #[.int .i64 a0_0, .int .i64 a0_1, .int .i64 a0_2, .int .i64 a0_3, .bool a0_4] 83 ?_; intro gb207 hg w3 hbox hb; have BK207 := xA (hbox); have GW207 := xgw hg (below_size (xB HB.out)); have GE207 := GW207; replace HB := xA (below_step (xB HB.out) hb); clear hb hbox hg) | (refine xg 2 rfl ?_; refine xV 2 #[.int .i64 0, .int .i64 0, .int .i64 0, .int .i64 0, .bool false] 79 ?_; intro gb208 hg w4 hbox hb; have BK208 := xA (hbox); have GW208 := xgw hg (below_size (xB1 GE207.out HB.out)); have GE208 := GW208; replace HB := xA (below_step (xB1 GE207.out HB.out) hb); have NB207_208 := xnl hg BK207; have NB208_207 := xng hg BK207; replace BK207 := xkb BK207 hb; clear hb hbox hg) | (refine xg 3 rfl ?_; refine xV 3 #[.int .i64 0, .int .i64 0, .int .i64 0, .int .i64 0, .bool false] 79 ?_; intro gb209 hg w5 hbox hb; have BK209 := xA (hbox); have GW209 := xgw hg (below_size (xB2 GE207.out GE208.out HB.out)); have GE209 := GW209; replace HB := xA (below_step (xB2 GE207.out GE208.out HB.out) hb); have NB207_209 := xnl hg BK207; have NB209_207 := xng hg BK207; replace BK207 := xkb BK207 hb; have NB208_209 := xnl hg BK208; have NB209_208 := xng hg BK208; replace BK208 := xkb BK208 hb; clear hb hbox hg; have hnb6 := NB207_208.out; have hnc6 := NB208_207.out; have hnb7 := NB207_209.out; have hnc7 := NB209_207.out; replace hz207 := blk_cell BK207.out; replace hy207 := blk_frozen BK207.out; have hnb9 := NB209_208.out; have hnc9 := NB208_209.out; obtain ⟨hcz10_0, hcz10_1, hcz10_2, hcz10_3, hcz10_4, hfz10_0, hfz10_1, hfz10_2, hfz10_3, hfz10_4⟩ := xZ5 BK209.out) | (refine xG (some 15) Tryd.func82 #[.agg #[.int .i64 a0_3, .bool a0_4]] ?_; (with_reducible refine (laws_toWord.calls a0_3 a0_4 t210 t211 _ A2.out).mono ?_); rintro e w11 ⟨rfl, hb⟩; refine ⟨_, rfl, ?_⟩; replace BK207 := xA (blk_below (xF1 NB207_209.out BK207.out) hb); replace BK208 := xA (blk_below (xF1 NB208_209.out BK208.out) hb); replace BK209 := xA (blk_below (g := gb209) (o := .cells #[.int .i64 a0_0, .int .i64 a0_1, .int .i64 a0_2, .int .i64 0, .bool false] 79 (0, 0)) (xPt0 BK209.out) hb); replace HB := xA (below_step (xB3 GE207.out GE208.out GE209.out HB.out) hb); (try clear hb); replace hz209 := blk_cell BK209.out; replace hy209 := blk_frozen BK209.out; replace hz208 := blk_cell BK208.out; replace hy208 := blk_frozen BK208.out))
 refine bodyPost_ret (results_cell_row rfl _ _ gb208 79 #[.int .i64 a0_0, .int .i64 a0_1, .int .i64 a0_2, .int .i64 t210, .bool t211] (0, 0) _ rfl (xPt1 NB208_209.out BK208.out) Tryd.underlying79 rfl (by kernel_rfl)) rfl ?_
 exact ⟨xr, xB3 GE207.out GE208.out GE209.out HB.out⟩

/-! ### laws_toFirstS: function 32 -/
def laws_toFirstS.l0 : Nat → List (S83) → List (S79) → Int → Option ((List (S79)))
 | 0, _, _, _ => none
 | k + 1, x0, x3, x4 => if x4 < (x0.length : Int) then (if 0 ≤ x4 then ((laws_toFirst.f ((rd_T83 x0 x4).f0) ((rd_T83 x0 x4).f1) ((rd_T83 x0 x4).f2) ((rd_T83 x0 x4).f3.f0) ((rd_T83 x0 x4).f3.f1)).bind fun bt216 => (if x4 < (x3.length : Int) then (laws_toFirstS.l0 k x0 (x3.set (x4 : Int).toNat (⟨bt216.1, bt216.2.1, bt216.2.2.1, (⟨bt216.2.2.2.1, bt216.2.2.2.2⟩ : S77)⟩ : S79)) (wrap64 (x4 + 1))) else (none))) else (none)) else (some x3)
def laws_toFirstS.f (k : Nat) (l0 : List (S83)) : Option ((List (S79))) := if 0 ≤ (l0.length : Int) then (if ((l0.length : Int) : Int).toNat ≤ 7036874417766 then (laws_toFirstS.l0 k l0 (List.replicate ((l0.length : Int) : Int).toNat z79) 0) else (none)) else (none)
theorem laws_toFirstS.mono_l : ∀ k, (∀ y0 y1 y2, LeO (laws_toFirstS.l0 k y0 y1 y2) (laws_toFirstS.l0 (k + 1) y0 y1 y2))
 | 0 => fun _ _ _ r h => by simp [laws_toFirstS.l0] at h
 | k + 1 => by
  have ih0 := laws_toFirstS.mono_l k
  intros
  unfold laws_toFirstS.l0
  exact xM
theorem laws_toFirstS.mono : ∀ a0 k, LeO (laws_toFirstS.f k a0) (laws_toFirstS.f (k + 1) a0) := by
 intro a0 k
 have ih0 := laws_toFirstS.mono_l k
 unfold laws_toFirstS.f
 exact xM
set_option maxHeartbeats 200000000 in
set_option maxRecDepth 100000 in
theorem laws_toFirstS.calls (k : Nat) (A0 : Option Addr) (c0 : Nat) (l0 : List (S83)) (r : List (S79)) (w : World) (hr0 : Kd.C k83 w A0 l0.length l0) (hc0 : l0.length ≤ c0) (h : laws_toFirstS.f k l0 = some r) :
  Calls Tryd.prog 32 #[.slice A0 l0.length c0] w fun e w' => ∃ v0_ : Value, e = .returned (v0_) ∧ Kd.R k79 79 w' w.heap.size (fun _ => True) v0_ r ∧ Below w.heap.size w w' := by
 have hu83 := Tryd.underlying83
 have hu79 := Tryd.underlying79
 have HR0 := xA hr0
 have HC0 := xA hc0
 clear hr0 hc0
 have HB := xA (Below.refl w.heap.size w)
 have H : (if 0 ≤ (l0.length : Int) then (if ((l0.length : Int) : Int).toNat ≤ 7036874417766 then (laws_toFirstS.l0 k l0 (List.replicate ((l0.length : Int) : Int).toNat z79) 0) else (none)) else (none)) = some r := h
 clear h
 by_cases c2 : 0 ≤ (l0.length : Int)
 rotate_left
 ·rw [if_neg c2] at H
  exact absurd H (by simp)

 rw [if_pos c2] at H
 have c2b0 := eq_true c2
 have c2b1 : decide (0 ≤ (l0.length : Int)) = true := decide_eq_true c2
 clear c2
 by_cases c3 : ((l0.length : Int) : Int).toNat ≤ 7036874417766
 rotate_left
 ·rw [if_neg c3] at H
  exact absurd H (by simp)
 rw [if_pos c3] at H
 have c3b0 := eq_true c3
 have c3b1 : decide (((l0.length : Int) : Int).toNat ≤ 7036874417766) = true := decide_eq_true c3
 clear c3
 obtain ⟨y212, hy212⟩ : ∃ y_ : List (S79), y_ = (List.replicate ((l0.length : Int) : Int).toNat z79) := ⟨_, rfl⟩
 replace H : (laws_toFirstS.l0 k l0 y212 0) = some r := by first | (rw [hy212]; with_reducible exact H) | (have H2_ := (Option.bind_some _ _).symm.trans H; rw [hy212]; with_reducible exact H2_) | (have H2_ := (Option.bind_some _ _).symm.trans H; with_reducible exact H2_) | with_reducible exact H | (rw [hy212]; exact H) | exact H
 have Ny212 := xA hy212
 clear hy212
 have H' := xA H
 clear H
 go_enter Tryd.func32, Tryd.ntmps32
 go_wp2_with (first | ((with_reducible refine gate_dst (N := 7) rfl ?_); refine Kd.R_make k79 _ 79 rfl (N := 7) rfl 42 _ _ rfl (l0.length : Int) rfl rfl Tryd.underlying42 (.agg #[(.int .i64 0), (.int .i64 0), (.int .i64 0), (.int .i64 0), (.bool false)]) 40 info79 rfl (by decide) (by omega) z79 (ok := fun _ => True) (okp := fun _ => True) (k79_mkM _ _ _ z79 ) (fun _ hk => hk) trivial (of_decide_eq_true (by first | (with_reducible assumption) | assumption)) (Nat.le_trans (Nat.mul_le_mul_right _ (of_decide_eq_true (by first | (with_reducible assumption) | assumption) : (l0.length : Int).toNat ≤ 7036874417766)) (by omega)) (Below.refl _ _) (Nat.le_refl _) ?_; intro v213 w4 ho5 hb hg_ hnew_; clear hg_ hnew_; (first | rw [← Ny212.out] at ho5 | (simp only [Int.reduceToNat] at ho5; rw [← Ny212.out] at ho5)); have HO214 := xA (Kd.R_lower ho5 (below_size (xB HB.out))); replace HB := xA (below_step (xB HB.out) hb); clear hb ho5))
 go_loopg [4] k (fun kq v4 w' => ∃ (x3_1 : List (S79)) (x4_1 : Int), v4 = .int .i64 x4_1 ∧ Aside0 (laws_toFirstS.l0 kq l0 x3_1 x4_1 = some r) ∧ Aside0 (kq ≤ k) ∧ Aside0 (Kd.R k79 79 w' w.heap.size (fun _ => True) v213 x3_1) ∧ Aside0 (Below w.heap.size w w'))
 case atStart => exact ⟨(y212), (0), xs, H', ⟨Nat.le_refl _⟩, ⟨xR HO214.out⟩, ⟨xB HB.out⟩⟩
 case round =>
  clear H'
  try clear c2b0
  try clear c2b1
  try clear c3b0
  try clear c3b1
  obtain ⟨x3_1, x4_1, rfl, HA, HK1, HO_3, HB⟩ := hrel
  cases gk with
  | zero => exact absurd HA.out (by simp [laws_toFirstS.l0])
  | succ k1 =>
   have H := HA.out
   clear HA
   simp only [laws_toFirstS.l0] at H
   by_cases c6 : x4_1 < (l0.length : Int)
   rotate_left
   ·rw [if_neg c6] at H
    have c6b0 : decide (x4_1 < (l0.length : Int)) = false := decide_eq_false c6
    clear c6
    obtain rfl := Option.some.inj H
    go_wp2
    go_ret
    exact ⟨_, xr, xR HO_3.out, xB HB.out⟩
   rw [if_pos c6] at H
   have c6b0 : decide (x4_1 < (l0.length : Int)) = true := decide_eq_true c6
   clear c6
   by_cases c7 : 0 ≤ x4_1
   rotate_left
   ·rw [if_neg c7] at H
    exact absurd H (by simp)
   rw [if_pos c7] at H
   have c7b0 : decide (0 ≤ x4_1) = true := decide_eq_true c7
   clear c7
   replace H := Option.bind_eq_some_iff.mp H
   obtain ⟨⟨t216, t217, t218, t219, t220⟩, A80, H⟩ := H
   (try dsimp only at H)
   have A8 := xA A80
   clear A80
   by_cases c9 : x4_1 < (x3_1.length : Int)
   rotate_left
   ·rw [if_neg c9] at H
    exact absurd H (by simp)
   rw [if_pos c9] at H
   have c9b0 : decide (x4_1 < (x3_1.length : Int)) = true := decide_eq_true c9
   clear c9
   obtain ⟨y221, hy221⟩ : ∃ y_ : List (S79), y_ = (x3_1.set (x4_1 : Int).toNat (⟨t216, t217, t218, (⟨t219, t220⟩ : S77)⟩ : S79)) := ⟨_, rfl⟩
   replace H : (laws_toFirstS.l0 k1 l0 y221 (wrap64 (x4_1 + 1))) = some r := by first | (rw [hy221]; with_reducible exact H) | (have H2_ := (Option.bind_some _ _).symm.trans H; rw [hy221]; with_reducible exact H2_) | (have H2_ := (Option.bind_some _ _).symm.trans H; with_reducible exact H2_) | with_reducible exact H | (rw [hy221]; exact H) | exact H
   have Ny221 := xA hy221
   clear hy221
   have H' := xA H
   clear H
   have p215 : 0 ≤ (x4_1 : Int) := of_decide_eq_true (by first | (with_reducible assumption) | assumption)
   have q215 : x4_1 < (l0.length : Int) := of_decide_eq_true (by first | (with_reducible assumption) | assumption)
   obtain ⟨ad215, e215, hx215_0, hx215_1, hx215_2, hx215_3, hx215_4⟩ := at_T83 HR0.out x4_1 p215 q215
   cases e215
   replace hx215_0 := (HB.out.cell (World.block_lt_of_cell? w _ hx215_0)).trans hx215_0
   replace hx215_1 := (HB.out.cell (World.block_lt_of_cell? w _ hx215_1)).trans hx215_1
   replace hx215_2 := (HB.out.cell (World.block_lt_of_cell? w _ hx215_2)).trans hx215_2
   replace hx215_3 := (HB.out.cell (World.block_lt_of_cell? w _ hx215_3)).trans hx215_3
   replace hx215_4 := (HB.out.cell (World.block_lt_of_cell? w _ hx215_4)).trans hx215_4
   replace p215 := eq_true p215
   replace q215 := eq_true q215
   go_wp2_with (first | (refine xG (some 20) Tryd.func64 #[.agg #[.int .i64 ((rd_T83 l0 x4_1).f0), .int .i64 ((rd_T83 l0 x4_1).f1), .int .i64 ((rd_T83 l0 x4_1).f2), .int .i64 ((rd_T83 l0 x4_1).f3.f0), .bool ((rd_T83 l0 x4_1).f3.f1)]] ?_; (with_reducible refine (laws_toFirst.calls ((rd_T83 l0 x4_1).f0) ((rd_T83 l0 x4_1).f1) ((rd_T83 l0 x4_1).f2) ((rd_T83 l0 x4_1).f3.f0) ((rd_T83 l0 x4_1).f3.f1) t216 t217 t218 t219 t220 _ A8.out).mono ?_); rintro e w11 ⟨rfl, hb⟩; refine ⟨_, rfl, ?_⟩; replace HO_3 := xA (Kd.R_below (xR HO_3.out) hb); replace HB := xA (below_step (xB HB.out) hb); (try clear hb); have p10 : 0 ≤ (x4_1 : Int) := of_decide_eq_true (by first | (with_reducible assumption) | assumption); have q10 : (x4_1 : Int) < ((x3_1.length : Int) : Int) := of_decide_eq_true (by first | (with_reducible assumption) | assumption); obtain ⟨go10, co10, eo10, gb10, gl10, cl10, HG10⟩ := Kd.R_form HO_3.out (by omega); (first | cases eo10 | (injection eo10 with ea_ en_ ec_; (first | subst ea_ | (injection ea_ with ea_; subst ea_)); subst ec_; clear en_)); have GB10 := xA gb10; have GG10 := xA HG10; clear gb10 gl10 HG10; obtain ⟨ce10, hcl10, hM10, hcc10, hfr10⟩ := Kd.R_elem HO_3.out z79 (x4_1 : Int) p10 q10; obtain rfl := k79_openM hM10; have hx10_0 : w11.cell? ⟨go10, (x4_1 : Int).toNat * 5, none⟩ = some (.int .i64 ((rd_T79 x3_1 x4_1).f0)) := hcc10 0 _ rfl; have hx10_1 : w11.cell? ⟨go10, (x4_1 : Int).toNat * 5 + 1, none⟩ = some (.int .i64 ((rd_T79 x3_1 x4_1).f1)) := hcc10 1 _ rfl; have hx10_2 : w11.cell? ⟨go10, (x4_1 : Int).toNat * 5 + 2, none⟩ = some (.int .i64 ((rd_T79 x3_1 x4_1).f2)) := hcc10 2 _ rfl; have hx10_3 : w11.cell? ⟨go10, (x4_1 : Int).toNat * 5 + 3, none⟩ = some (.int .i64 ((rd_T79 x3_1 x4_1).f3.f0)) := hcc10 3 _ rfl; have hx10_4 : w11.cell? ⟨go10, (x4_1 : Int).toNat * 5 + 4, none⟩ = some (.bool ((rd_T79 x3_1 x4_1).f3.f1)) := hcc10 4 _ rfl; have hf10_0 : w11.frozen? ⟨go10, (x4_1 : Int).toNat * 5, none⟩ = false := hfr10 0; have hf10_1 : w11.frozen? ⟨go10, (x4_1 : Int).toNat * 5 + 1, none⟩ = false := hfr10 1; have hf10_2 : w11.frozen? ⟨go10, (x4_1 : Int).toNat * 5 + 2, none⟩ = false := hfr10 2; have hf10_3 : w11.frozen? ⟨go10, (x4_1 : Int).toNat * 5 + 3, none⟩ = false := hfr10 3; have hf10_4 : w11.frozen? ⟨go10, (x4_1 : Int).toNat * 5 + 4, none⟩ = false := hfr10 4; clear hcl10 hcc10 hfr10 hM10; replace p10 := eq_true p10; replace q10 := eq_true q10; have HX12 := xA (show Kd.R k79 79 w11 w.heap.size (fun _ => True) (.slice (some ⟨go10, 0, none⟩) x3_1.length co10) x3_1 from (xR HO_3.out)); obtain ⟨ce12, hcl12, hM12, hcc12, hfr12⟩ := Kd.R_elem HX12.out z79 (x4_1 : Int) (of_decide_eq_true (by first | (with_reducible assumption) | assumption)) (by have h_ : (x4_1 : Int) < ((x3_1.length : Int) : Int) := of_decide_eq_true (by first | (with_reducible assumption) | assumption); first | exact h_ | (have e_ := (Kd.R_reads' HO_3.out).1; omega) | simpa using h_); obtain rfl := k79_openM hM12; have HP12 := Kd.R_seg HX12.out (x4_1 : Int) (of_decide_eq_true (by first | (with_reducible assumption) | assumption)) (by have h_ : (x4_1 : Int) < ((x3_1.length : Int) : Int) := of_decide_eq_true (by first | (with_reducible assumption) | assumption); first | exact h_ | (have e_ := (Kd.R_reads' HO_3.out).1; omega) | simpa using h_) (seg := [.int .i64 t216, .int .i64 t217, .int .i64 t218, .int .i64 t219, .bool t220]) (j := 0) hcl12 hcc12 (show 5 ≤ 5 from by decide) (x' := (⟨t216, t217, t218, (⟨t219, t220⟩ : S77)⟩ : S79)) (k79_mkM _ _ _ (⟨t216, t217, t218, (⟨t219, t220⟩ : S77)⟩ : S79) ) (fun _ hk => hk); have hx12_0 := hcc12 0 _ rfl; (try simp only [show (k79).sz = 5 from rfl, Nat.mul_one, Nat.add_zero] at hx12_0); have hf12_0 := hfr12 0; (try simp only [show (k79).sz = 5 from rfl, Nat.mul_one, Nat.add_zero] at hf12_0); have hx12_1 := hcc12 1 _ rfl; (try simp only [show (k79).sz = 5 from rfl, Nat.mul_one, Nat.add_zero] at hx12_1); have hf12_1 := hfr12 1; (try simp only [show (k79).sz = 5 from rfl, Nat.mul_one, Nat.add_zero] at hf12_1); have hx12_2 := hcc12 2 _ rfl; (try simp only [show (k79).sz = 5 from rfl, Nat.mul_one, Nat.add_zero] at hx12_2); have hf12_2 := hfr12 2; (try simp only [show (k79).sz = 5 from rfl, Nat.mul_one, Nat.add_zero] at hf12_2); have hx12_3 := hcc12 3 _ rfl; (try simp only [show (k79).sz = 5 from rfl, Nat.mul_one, Nat.add_zero] at hx12_3); have hf12_3 := hfr12 3; (try simp only [show (k79).sz = 5 from rfl, Nat.mul_one, Nat.add_zero] at hf12_3); have hx12_4 := hcc12 4 _ rfl; (try simp only [show (k79).sz = 5 from rfl, Nat.mul_one, Nat.add_zero] at hx12_4); have hf12_4 := hfr12 4; (try simp only [show (k79).sz = 5 from rfl, Nat.mul_one, Nat.add_zero] at hf12_4); clear hcl12 hcc12 hfr12 hM12) | ((with_reducible refine gate_store (t := 79) (p := 21) rfl ?_); refine store_event (t := 79) (p := 21) (v := ?vo_w13) (w1 := (((((w11.setCell ⟨go10, (x4_1 : Int).toNat * 5, none⟩ (.int .i64 t216)).setCell ⟨go10, (x4_1 : Int).toNat * 5 + 1, none⟩ (.int .i64 t217)).setCell ⟨go10, (x4_1 : Int).toNat * 5 + 2, none⟩ (.int .i64 t218)).setCell ⟨go10, (x4_1 : Int).toNat * 5 + 3, none⟩ (.int .i64 t219)).setCell ⟨go10, (x4_1 : Int).toNat * 5 + 4, none⟩ (.bool t220))) ?hg ?ho ?hn ?hr ?_; (case ho => rfl); (case hg => rfl); (case hn => rfl); (case hr => first | (go_simp; done) | (go_simp; rfl)); intro w13 hw; have hg : w11.grownBy w13 (some go10) := (by rw [hw]; exact HP12.2); have hp_ : Kd.R k79 79 w13 w.heap.size (fun _ => True) (.slice (some ⟨go10, 0, none⟩) x3_1.length co10) y221 := (by rw [hw, Ny221.out]; exact HP12.1); clear HP12; replace HO_3 := xA (hp_); replace HB := xA ((by rw [hw]; exact below_set (below_set (below_set (below_set (below_set (HB.out) GB10.out) GB10.out) GB10.out) GB10.out) GB10.out : Below w.heap.size w w13)); clear hg hw hp_))
   go_roundg k1
   case measure => have := HK1.out; omega
   case rel => exact ⟨(y221), (wrap64 (x4_1 + 1)), xs, H', ⟨by have := HK1.out; omega⟩, ⟨xR HO_3.out⟩, ⟨xB HB.out⟩⟩
end Go.Proofs.YtjplcongellcmaaDoor.PFnExactCountOutputs
