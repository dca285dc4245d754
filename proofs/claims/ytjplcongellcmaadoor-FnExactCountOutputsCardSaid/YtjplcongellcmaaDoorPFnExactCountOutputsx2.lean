/- What each Go function that the statement FnExactCountOutputs reaches answers, proved call by call. No condition beyond those that the theorems print. (Written by wip/tools/xprint.py of this repo, over the kit's print.) -/
import Derived.Test.YtjplcongellcmaaDoorPFnExactCountOutputsx0
import Derived.Test.YtjplcongellcmaaDoorPFnExactCountOutputsx1
namespace Go.Proofs.YtjplcongellcmaaDoor.PFnExactCountOutputs
open Go.RowKit Go.Proofs.YtjplcongellcmaaDoorW.PrintWords Go.Proofs.YtjplcongellcmaaDoorW.PrintLast Go.Proofs.YtjplcongellcmaaDoorW.PrintMore
attribute [local go_sem] max2_int min2_int max_two min_two max_three min_three max_four min_four   -- for this text's walks alone
set_option linter.unusedVariables false
set_option linter.unusedSimpArgs false

/-! ### spec_chOrders: function 60 -/
mutual
def spec_chOrders.l0 : Nat → Int → List (List Int) → Option ((List (List Int)))
 | 0, _, _ => none
 | k + 1, x0, x3 => if 0 < (x3.length : Int) then (if ((rd_L6 x3 0).length : Int) < x0 then (spec_chOrders.l1 k x0 ([] : List (List Int)) x3 (x3.length : Int) 0) else (some x3)) else (none)
def spec_chOrders.l1 : Nat → Int → List (List Int) → List (List Int) → Int → Int → Option ((List (List Int)))
 | 0, _, _, _, _, _ => none
 | k + 1, x0, x4, x15, x16, x17 => if x17 < x16 then (if 0 ≤ x17 then (if x17 < (x15.length : Int) then (spec_chOrders.l2 k x0 x4 (rd_L6 x15 x17) 0 x15 x16 x17) else (none)) else (none)) else (spec_chOrders.l0 k x0 x4)
def spec_chOrders.l2 : Nat → Int → List (List Int) → List Int → Int → List (List Int) → Int → Int → Option ((List (List Int)))
 | 0, _, _, _, _, _, _, _ => none
 | k + 1, x0, x4, x6, x7, x15, x16, x17 => if x7 < x0 then ((spec_l1Has.f k x6 x7).bind fun t131 => (if t131 = true then (spec_chOrders.l2 k x0 x4 x6 (wrap64 (x7 + 1)) x15 x16 x17) else ((spec_l1Own.f x6).bind fun t132 => (if t132.length < 17592186044416 then (if x4.length < 5864062014805 then (spec_chOrders.l2 k x0 (x4 ++ [(t132 ++ [x7])]) x6 (wrap64 (x7 + 1)) x15 x16 x17) else (none)) else (none))))) else (spec_chOrders.l1 k x0 x4 x15 x16 (wrap64 (x17 + 1)))
end
def spec_chOrders.f (k : Nat) (a0 : Int) : Option ((List (List Int))) := spec_chOrders.l0 k a0 (([[]] : List (List Int)))
theorem spec_chOrders.mono_l : ∀ k, (∀ y0 y1, LeO (spec_chOrders.l0 k y0 y1) (spec_chOrders.l0 (k + 1) y0 y1)) ∧ (∀ y0 y1 y2 y3 y4, LeO (spec_chOrders.l1 k y0 y1 y2 y3 y4) (spec_chOrders.l1 (k + 1) y0 y1 y2 y3 y4)) ∧ (∀ y0 y1 y2 y3 y4 y5 y6, LeO (spec_chOrders.l2 k y0 y1 y2 y3 y4 y5 y6) (spec_chOrders.l2 (k + 1) y0 y1 y2 y3 y4 y5 y6))
 | 0 => ⟨fun _ _ r h => by simp [spec_chOrders.l0] at h, fun _ _ _ _ _ r h => by simp [spec_chOrders.l1] at h, fun _ _ _ _ _ _ _ r h => by simp [spec_chOrders.l2] at h⟩
 | k + 1 => by
  obtain ⟨ih0, ih1, ih2⟩ := spec_chOrders.mono_l k
  have m0 := @spec_l1Has.mono
  refine ⟨?_, ?_, ?_⟩ <;> intros
  ·unfold spec_chOrders.l0; exact xM
  ·unfold spec_chOrders.l1; exact xM
  ·unfold spec_chOrders.l2; exact xM
theorem spec_chOrders.mono : ∀ a0 k, LeO (spec_chOrders.f k a0) (spec_chOrders.f (k + 1) a0) := by
 intro a0 k
 obtain ⟨ih0, ih1, ih2⟩ := spec_chOrders.mono_l k
 have m0 := @spec_l1Has.mono
 unfold spec_chOrders.f
 exact xM
set_option maxHeartbeats 200000000 in
set_option maxRecDepth 100000 in
theorem spec_chOrders.calls (k : Nat) (a0 : Int) (r : List (List Int)) (w : World) (h : spec_chOrders.f k a0 = some r) :
  Calls Tryd.prog 60 #[.int .i64 a0] w fun e w' => ∃ v0_ : Value, e = .returned (v0_) ∧ Kd.S (Kd.slice 3 (Kd.int .i64)) 24 w' w.heap.size (fun _ => True) v0_ r ∧ Below w.heap.size w w' := by
 have HB := xA (Below.refl w.heap.size w)
 have H : (spec_chOrders.l0 k a0 (([[]] : List (List Int)))) = some r := h
 clear h
 obtain ⟨y126, hy126⟩ : ∃ y_ : List (List Int), y_ = (([[]] : List (List Int))) := ⟨_, rfl⟩
 replace H : (spec_chOrders.l0 k a0 y126) = some r := by first | (rw [hy126]; with_reducible exact H) | (have H2_ := (Option.bind_some _ _).symm.trans H; rw [hy126]; with_reducible exact H2_) | (have H2_ := (Option.bind_some _ _).symm.trans H; with_reducible exact H2_) | with_reducible exact H | (rw [hy126]; exact H) | exact H
 have Ny126 := xA hy126
 clear hy126
 have H' := xA H
 clear H
 go_enter Tryd.func60, Tryd.ntmps60
 go_wp2_with (first | ((with_reducible refine gate_dst (N := 8) rfl ?_); refine Kd.S_lit (Kd.slice 3 (Kd.int .i64)) _ 24 ?hg (N := 8) ?hd (xs := ([[]] : List (List Int))) (inner := [.slice none 0 0]) (ok := fun _ => True) (okp := fun _ => True) ?hr ?hp (fun _ hk => hk) trivial (Below.refl _ _) (Nat.le_refl _) (by simp) ?_; (case hd => rfl); (case hg => rfl); (case hr => first | (go_simp; done) | (go_simp; rfl)); (case hp => exact (Reps.one (show Kd.M (Kd.slice 3 (Kd.int .i64)) _ _ _ [] [.slice none 0 0] from ⟨_, rfl, Kd.R_nil _ _ _ _ _⟩) (Reps.none _ _))); intro v127 w2 ho3 hb hg_ hnew_; clear hg_ hnew_; (first | rw [← Ny126.out] at ho3 | (simp only [Int.reduceToNat] at ho3; rw [← Ny126.out] at ho3)); have HO128 := xA (Kd.S_lower ho3 (below_size (xB HB.out))); replace HB := xA (below_step (xB HB.out) hb); clear hb ho3))
 go_loopg [3] k (fun kq v3 w' => ∃ (x3_1 : List (List Int)), Aside0 (spec_chOrders.l0 kq a0 x3_1 = some r) ∧ Aside0 (kq ≤ k) ∧ Aside0 (Kd.S (Kd.slice 3 (Kd.int .i64)) 24 w' w.heap.size (fun _ => True) v3 x3_1) ∧ Aside0 (Below w.heap.size w w'))
 case atStart => exact ⟨(y126), H', ⟨Nat.le_refl _⟩, ⟨xS HO128.out⟩, ⟨xB HB.out⟩⟩
 case round =>
  clear H'
  obtain ⟨x3_1, HA, HK1, HO_3, HB⟩ := hrel
  cases gk with
  | zero => exact absurd HA.out (by simp [spec_chOrders.l0])
  | succ k1 =>
   have H := HA.out
   clear HA
   simp only [spec_chOrders.l0] at H
   by_cases c4 : 0 < (x3_1.length : Int)
   rotate_left
   ·rw [if_neg c4] at H
    exact absurd H (by simp)

   rw [if_pos c4] at H
   have c4b0 : decide (0 < (x3_1.length : Int)) = true := decide_eq_true c4
   have c4b1 : decide (0 < x3_1.length) = true := decide_eq_true (by omega)
   clear c4
   by_cases c5 : ((rd_L6 x3_1 0).length : Int) < a0
   rotate_left
   ·rw [if_neg c5] at H
    have c5b0 : decide (((rd_L6 x3_1 0).length : Int) < a0) = false := decide_eq_false c5
    clear c5
    obtain rfl := Option.some.inj H
    obtain ⟨Ao20, co20, eo20⟩ := Kd.S_slice HO_3.out
    subst eo20
    have p129 : 0 ≤ (0 : Int) := (by omega)
    have q129 : 0 < (x3_1.length : Int) := of_decide_eq_true (by first | (with_reducible assumption) | assumption)
    obtain ⟨ad129, A129_0, c129_0, e129, hx129_0, hl129_0, hi129_0⟩ := at_L6 (Kd.S_reads' HO_3.out).2.2 0 p129 q129
    cases e129
    obtain ⟨ce129, hce129, hMe129, hcc129⟩ := Kd.S_get HO_3.out [] 0 p129 (by first | exact q129 | exact of_decide_eq_true (by first | (with_reducible assumption) | assumption) | (have e_ := (Kd.S_reads' HO_3.out).1; omega))
    obtain ⟨ve129_0, rfl, ge129_0⟩ := hMe129
    have hv129_0 := hcc129 0 _ rfl
    rw [Nat.add_zero, show ((Kd.slice 3 (Kd.int .i64))).sz = 1 from rfl, Nat.mul_one] at hv129_0
    replace hv129_0 := Option.some.inj (hv129_0.symm.trans hx129_0)
    rw [hv129_0] at ge129_0
    have HL129_0 := xA (show Kd.R (Kd.int .i64) 3 _ _ _ _ (rd_L6 x3_1 0) from ge129_0)
    clear hv129_0 ge129_0
    clear hcc129 hce129
    have qi129 : (0 < x3_1.length) = True := eq_true (by omega)
    (try rw [show ((0 : Int)).toNat = 0 from rfl] at hx129_0)
    (try rw [Addr.add_zero'] at hx129_0)
    have HR129_0 := xA hi129_0
    have HC129_0 := xA hl129_0
    clear hi129_0 hl129_0
    replace p129 := eq_true p129
    replace q129 := eq_true q129
    go_wp2
    go_ret
    exact ⟨_, xr, xS HO_3.out, xB HB.out⟩
   rw [if_pos c5] at H
   have c5b0 : decide (((rd_L6 x3_1 0).length : Int) < a0) = true := decide_eq_true c5
   clear c5
   have H' := xA H
   clear H
   obtain ⟨Ao6, co6, eo6⟩ := Kd.S_slice HO_3.out
   subst eo6
   have p129 : 0 ≤ (0 : Int) := (by omega)
   have q129 : 0 < (x3_1.length : Int) := of_decide_eq_true (by first | (with_reducible assumption) | assumption)
   obtain ⟨ad129, A129_0, c129_0, e129, hx129_0, hl129_0, hi129_0⟩ := at_L6 (Kd.S_reads' HO_3.out).2.2 0 p129 q129
   cases e129
   obtain ⟨ce129, hce129, hMe129, hcc129⟩ := Kd.S_get HO_3.out [] 0 p129 (by first | exact q129 | exact of_decide_eq_true (by first | (with_reducible assumption) | assumption) | (have e_ := (Kd.S_reads' HO_3.out).1; omega))
   obtain ⟨ve129_0, rfl, ge129_0⟩ := hMe129
   have hv129_0 := hcc129 0 _ rfl
   rw [Nat.add_zero, show ((Kd.slice 3 (Kd.int .i64))).sz = 1 from rfl, Nat.mul_one] at hv129_0
   replace hv129_0 := Option.some.inj (hv129_0.symm.trans hx129_0)
   rw [hv129_0] at ge129_0
   have HL129_0 := xA (show Kd.R (Kd.int .i64) 3 _ _ _ _ (rd_L6 x3_1 0) from ge129_0)
   clear hv129_0 ge129_0
   clear hcc129 hce129
   have qi129 : (0 < x3_1.length) = True := eq_true (by omega)
   (try rw [show ((0 : Int)).toNat = 0 from rfl] at hx129_0)
   (try rw [Addr.add_zero'] at hx129_0)
   have HR129_0 := xA hi129_0
   have HC129_0 := xA hl129_0
   clear hi129_0 hl129_0
   replace p129 := eq_true p129
   replace q129 := eq_true q129
   go_wp2
   go_loopg [4, 17] k1 (fun kq v4 v17 w' => ∃ (x4_2 : List (List Int)) (x17_2 : Int), v17 = .int .i64 x17_2 ∧ Aside0 (spec_chOrders.l1 kq a0 x4_2 x3_1 (x3_1.length : Int) x17_2 = some r) ∧ Aside0 (kq ≤ k1) ∧ Aside0 (Kd.S (Kd.slice 3 (Kd.int .i64)) 24 w' w.heap.size (fun k_ => some k_ ≠ ((.slice (some ad129) x3_1.length co6) : Value).ownBlock) v4 x4_2) ∧ Aside0 (Kd.S (Kd.slice 3 (Kd.int .i64)) 24 w' w.heap.size (fun k_ => some k_ ≠ (v4 : Value).ownBlock) (.slice (some ad129) x3_1.length co6) x3_1) ∧ Aside0 (Below w.heap.size w w'))
   case atStart => exact ⟨(([] : List (List Int))), (0), xs, H', ⟨Nat.le_refl _⟩, ⟨by first | exact Kd.S_nil _ _ _ _ _ | exact Kd.N_nil _ _ _ _ _ | exact Kd.V_nil _ _ _ _ _ | exact Kd.Q_nil _ _ _ _ _ | exact Kd.R_nil _ _ _ _ _⟩, ⟨by (with_reducible repeat (first | apply Kd.S_alloc | apply Kd.S_drewN | apply Kd.S_drew)); exact Kd.S_mono HO_3.out (fun _ hk => (by simp [Value.ownBlock]))⟩, ⟨xB HB.out⟩⟩
   case round =>
    clear H'
    try clear c4b0
    try clear c4b1
    try clear c5b0
    try clear hx129_0
    try clear p129
    try clear q129
    obtain ⟨x4_2, x17_2, rfl, HA, HK2, HO_4, HO_15, HB⟩ := hrel
    cases gk with
    | zero => exact absurd HA.out (by simp [spec_chOrders.l1])
    | succ k2 =>
     have H := HA.out
     clear HA
     simp only [spec_chOrders.l1] at H
     by_cases c7 : x17_2 < (x3_1.length : Int)
     rotate_left
     ·rw [if_neg c7] at H
      have c7b0 : decide (x17_2 < (x3_1.length : Int)) = false := decide_eq_false c7
      clear c7
      have H' := xA H
      clear H
      go_wp2
      go_roundg k2
      case measure => have := HK1.out; have := HK2.out; omega
      case rel => exact ⟨(x4_2), H', ⟨by have := HK1.out; have := HK2.out; omega⟩, ⟨by (with_reducible repeat (first | apply Kd.S_alloc | apply Kd.S_drewN | apply Kd.S_drew)); exact Kd.S_mono HO_4.out (fun _ hk => trivial)⟩, ⟨xB HB.out⟩⟩
     rw [if_pos c7] at H
     have c7b0 : decide (x17_2 < (x3_1.length : Int)) = true := decide_eq_true c7
     clear c7
     by_cases c8 : 0 ≤ x17_2
     rotate_left
     ·rw [if_neg c8] at H
      exact absurd H (by simp)
     rw [if_pos c8] at H
     have c8b0 : decide (0 ≤ x17_2) = true := decide_eq_true c8
     clear c8
     by_cases c9 : x17_2 < (x3_1.length : Int)
     rotate_left
     ·rw [if_neg c9] at H
      exact absurd H (by simp)
     rw [if_pos c9] at H
     have c9b0 : decide (x17_2 < (x3_1.length : Int)) = true := decide_eq_true c9
     clear c9
     have H' := xA H
     clear H
     have p130 : 0 ≤ (x17_2 : Int) := of_decide_eq_true (by first | (with_reducible assumption) | assumption)
     have q130 : x17_2 < (x3_1.length : Int) := of_decide_eq_true (by first | (with_reducible assumption) | assumption)
     obtain ⟨ad130, A130_0, c130_0, e130, hx130_0, hl130_0, hi130_0⟩ := at_L6 (Kd.S_reads' HO_15.out).2.2 x17_2 p130 q130
     obtain rfl : ad129 = ad130 := (by injection e130)
     obtain ⟨ce130, hce130, hMe130, hcc130⟩ := Kd.S_get HO_15.out [] x17_2 p130 (by first | exact q130 | exact of_decide_eq_true (by first | (with_reducible assumption) | assumption) | (have e_ := (Kd.S_reads' HO_15.out).1; omega))
     obtain ⟨ve130_0, rfl, ge130_0⟩ := hMe130
     have hv130_0 := hcc130 0 _ rfl
     rw [Nat.add_zero, show ((Kd.slice 3 (Kd.int .i64))).sz = 1 from rfl, Nat.mul_one] at hv130_0
     replace hv130_0 := Option.some.inj (hv130_0.symm.trans hx130_0)
     rw [hv130_0] at ge130_0
     have HL130_0 := xA (show Kd.R (Kd.int .i64) 3 _ _ _ _ (rd_L6 x3_1 x17_2) from ge130_0)
     clear hv130_0 ge130_0
     clear hcc130 hce130
     have HR130_0 := xA hi130_0
     have HC130_0 := xA hl130_0
     clear hi130_0 hl130_0
     replace p130 := eq_true p130
     replace q130 := eq_true q130
     go_wp2
     go_loopg [4, 7] k2 (fun kq v4 v7 w' => ∃ (x4_3 : List (List Int)) (x7_3 : Int), v7 = .int .i64 x7_3 ∧ Aside0 (spec_chOrders.l2 kq a0 x4_3 (rd_L6 x3_1 x17_2) x7_3 x3_1 (x3_1.length : Int) x17_2 = some r) ∧ Aside0 (kq ≤ k2) ∧ Aside0 (Kd.S (Kd.slice 3 (Kd.int .i64)) 24 w' w.heap.size (fun k_ => some k_ ≠ ((.slice (some ad129) x3_1.length co6) : Value).ownBlock) v4 x4_3) ∧ Aside0 (Kd.S (Kd.slice 3 (Kd.int .i64)) 24 w' w.heap.size (fun k_ => some k_ ≠ (v4 : Value).ownBlock) (.slice (some ad129) x3_1.length co6) x3_1) ∧ Aside0 (Below w.heap.size w w') ∧ Aside0 (Kd.R (Kd.int .i64) 3 w' w.heap.size (fun _ => True) (.slice A130_0 (rd_L6 x3_1 x17_2).length c130_0) (rd_L6 x3_1 x17_2)))
     case atStart => exact ⟨(x4_2), (0), xs, H', ⟨Nat.le_refl _⟩, ⟨xS HO_4.out⟩, ⟨xS HO_15.out⟩, ⟨xB HB.out⟩, ⟨Kd.R_mono (xR HL130_0.out) (fun _ _ => trivial)⟩⟩
     case round =>
      clear H'
      try clear c7b0
      try clear c8b0
      try clear c9b0
      try clear hx130_0
      try clear p130
      try clear q130
      obtain ⟨x4_3, x7_3, rfl, HA, HK3, HO_4, HO_15, HB, HL130_0⟩ := hrel
      have HR130_0 := xA (Kd.R_reads' HL130_0.out).2.2
      cases gk with
      | zero => exact absurd HA.out (by simp [spec_chOrders.l2])
      | succ k3 =>
       have H := HA.out
       clear HA
       simp only [spec_chOrders.l2] at H
       by_cases c10 : x7_3 < a0
       rotate_left
       ·rw [if_neg c10] at H
        have c10b0 : decide (x7_3 < a0) = false := decide_eq_false c10
        clear c10
        have H' := xA H
        clear H
        go_wp2
        go_roundg k3
        case measure => have := HK1.out; have := HK2.out; have := HK3.out; omega
        case rel => exact ⟨(x4_3), (wrap64 (x17_2 + 1)), xs, H', ⟨by have := HK1.out; have := HK2.out; have := HK3.out; omega⟩, ⟨xS HO_4.out⟩, ⟨xS HO_15.out⟩, ⟨xB HB.out⟩⟩
       rw [if_pos c10] at H
       have c10b0 : decide (x7_3 < a0) = true := decide_eq_true c10
       clear c10
       obtain ⟨t131, A11, H⟩ := xO H
       (try dsimp only at H)
       by_cases c12 : t131 = true
       ·subst c12
        rw [if_pos rfl] at H
        have H' := xA H
        clear H
        go_wp2_with (first | (refine xG (some 28) Tryd.func79 #[.slice A130_0 (rd_L6 x3_1 x17_2).length c130_0, .int .i64 x7_3] ?_; (with_reducible refine (spec_l1Has.calls k3 _ _ (rd_L6 x3_1 x17_2) x7_3 true _ ?side1 ?side2 A11.out).mono ?_); (case side1 => exact xC HR130_0.out); (case side2 => exact HC130_0.out); rintro e w' ⟨rfl, ⟨nd, rfl⟩⟩; refine ⟨_, rfl, ?_⟩))
        go_roundg k3
        case measure => have := HK1.out; have := HK2.out; have := HK3.out; omega
        case rel => exact ⟨(x4_3), (wrap64 (x7_3 + 1)), xs, H', ⟨by have := HK1.out; have := HK2.out; have := HK3.out; omega⟩, ⟨xS HO_4.out⟩, ⟨xS HO_15.out⟩, ⟨xB HB.out⟩, ⟨Kd.R_mono (xR HL130_0.out) (fun _ _ => trivial)⟩⟩
       replace c12 := Bool.eq_false_iff.mpr c12
       subst c12
       rw [if_neg (show ¬ (false = true) by decide)] at H
       obtain ⟨t132, A13, H⟩ := xO H
       (try dsimp only at H)
       by_cases c14 : t132.length < 17592186044416
       rotate_left
       ·rw [if_neg c14] at H
        exact absurd H (by simp)
       rw [if_pos c14] at H
       have LMc14 := xA c14
       clear c14
       obtain ⟨y135, hy135⟩ : ∃ y_ : List Int, y_ = (t132 ++ [x7_3]) := ⟨_, rfl⟩
       replace H : (if x4_3.length < 5864062014805 then (spec_chOrders.l2 k3 a0 (x4_3 ++ [y135]) (rd_L6 x3_1 x17_2) (wrap64 (x7_3 + 1)) x3_1 (x3_1.length : Int) x17_2) else (none)) = some r := by first | (rw [hy135]; with_reducible exact H) | (have H2_ := (Option.bind_some _ _).symm.trans H; rw [hy135]; with_reducible exact H2_) | (have H2_ := (Option.bind_some _ _).symm.trans H; with_reducible exact H2_) | with_reducible exact H | (rw [hy135]; exact H) | exact H
       have Ny135 := xA hy135
       clear hy135
       by_cases c15 : x4_3.length < 5864062014805
       rotate_left
       ·rw [if_neg c15] at H
        exact absurd H (by simp)
       rw [if_pos c15] at H
       have LMc15 := xA c15
       clear c15
       obtain ⟨y138, hy138⟩ : ∃ y_ : List (List Int), y_ = (x4_3 ++ [y135]) := ⟨_, rfl⟩
       replace H : (spec_chOrders.l2 k3 a0 y138 (rd_L6 x3_1 x17_2) (wrap64 (x7_3 + 1)) x3_1 (x3_1.length : Int) x17_2) = some r := by first | (rw [hy138]; with_reducible exact H) | (have H2_ := (Option.bind_some _ _).symm.trans H; rw [hy138]; with_reducible exact H2_) | (have H2_ := (Option.bind_some _ _).symm.trans H; with_reducible exact H2_) | with_reducible exact H | (rw [hy138]; exact H) | exact H
       have Ny138 := xA hy138
       clear hy138
       have H' := xA H
       clear H
       go_wp2_with (first | (refine xq rfl ?_; first | (refine xG (some 28) Tryd.func79 #[.slice A130_0 (rd_L6 x3_1 x17_2).length c130_0, .int .i64 x7_3] ?_; (with_reducible refine (spec_l1Has.calls k3 _ _ (rd_L6 x3_1 x17_2) x7_3 false _ ?side1 ?side2 A11.out).mono ?_); (case side1 => exact xC HR130_0.out); (case side2 => exact HC130_0.out); rintro e w' ⟨rfl, ⟨nd, rfl⟩⟩; refine ⟨_, rfl, ?_⟩) | (refine xG (some 32) Tryd.func80 #[.slice A130_0 (rd_L6 x3_1 x17_2).length c130_0] ?_; (with_reducible refine (spec_l1Own.calls _ _ (rd_L6 x3_1 x17_2) t132 _ ?side1 ?side2 A13.out).mono ?_); (case side1 => exact xC HR130_0.out); (case side2 => exact HC130_0.out); rintro e w16 ⟨v133, rfl, ho0, hb⟩; refine ⟨_, rfl, ?_⟩; replace HL130_0 := xA (Kd.R_elder' (xR HL130_0.out) (Kd.R_base ho0) hb); replace HO_4 := xA (Kd.S_elder' (xS HO_4.out) (Kd.R_base ho0) hb); replace HO_15 := xA (Kd.S_elder' (xS HO_15.out) (Kd.R_base ho0) hb); have HO134 := xA (Kd.R_lower ho0 (below_size (xB HB.out))); replace HB := xA (below_step (xB HB.out) hb); (try clear hb); (try clear ho0))) | ((with_reducible refine gate_builtin (b := .append) (xs := #[.tmp 32, .tmp 34]) rfl ?_); at_builtin; refine Kd.R_append (Kd.int .i64) (w0 := w) w.heap.size rfl (.tmp 32) (.tmp 34) 24 3 (.int .i64 0) 8 rfl Tryd.underlying24 info3 rfl (by decide) (by omega) v133 t132 x7_3 [.int .i64 x7_3] (fun _ => True) (fun _ => False) rfl rfl ?aP (fun _ hk => hk.elim) ?aF ?aO ?aB ?aS ?aL ?_; (case aP => exact rfl); (case aB => exact (xB HB.out)); (case aF => exact (fun _ _ => trivial)); (case aO => exact (xR HO134.out)); (case aS => exact (below_size (xB HB.out))); (case aL => have := LMc14.out; omega); intro v136 w17 ho hb hg hat; rw [← Ny135.out] at ho; replace HL130_0 := xA (Kd.R_grown (ok := fun k_ => True ∧ some k_ ≠ (v133 : Value).ownBlock) (by (with_reducible repeat (first | apply Kd.R_alloc | apply Kd.R_drewN | apply Kd.R_drew)); exact HL130_0.out) hg (fun _ hk => hk.2)); replace HO_4 := xA (Kd.S_after (ok := (fun k_ => some k_ ≠ (.slice (some ad129) x3_1.length co6 : Value).ownBlock)) (xS HO_4.out) hg hat); replace HO_15 := xA (Kd.S_after (ok := (fun k_ => some k_ ≠ (u4 : Value).ownBlock)) (xS HO_15.out) hg hat); replace HB := xA (hb); have HO137 := xA (ho); clear HO134; clear ho hb hg hat; obtain ⟨Ao19, co19, eo19⟩ := Kd.R_slice HO137.out; subst eo19) | ((with_reducible refine gate_builtin (b := .append) (xs := #[.tmp 30, .tmp 36]) rfl ?_); at_builtin; refine Kd.S_append (Kd.slice 3 (Kd.int .i64)) (w0 := w) w.heap.size rfl (.tmp 30) (.tmp 36) 72 24 (.slice none 0 0) 24 rfl Tryd.underlying72 info24 rfl (by decide) (by omega) u4 x4_3 y135 [.slice Ao19 y135.length co19] (fun k_ => some k_ ≠ (.slice (some ad129) x3_1.length co6 : Value).ownBlock) (fun k_ => some k_ = (.slice Ao19 y135.length co19 : Value).ownBlock) rfl rfl ?aP (fun k_ hk_ => ((Kd.R_mono (ok' := fun k_ => ((fun k_ => some k_ ≠ (.slice (some ad129) x3_1.length co6 : Value).ownBlock)) k_ ∧ some k_ ≠ (u4 : Value).ownBlock) (Kd.R_apart' (Kd.R_apart' (HO137.out) (Kd.S_typed HO_15.out) (by decide)) (Kd.S_typed HO_4.out) (by decide)) (fun k_ hk => ⟨hk.1.2, hk.2⟩))).1 k_ hk_.symm) ?aF ?aO ?aB ?aS ?aL ?_; (case aP => exact Kd.M_row (Kd.R_mono (Kd.R_tight rfl (Kd.R_mono (ok' := fun k_ => ((fun k_ => some k_ ≠ (.slice (some ad129) x3_1.length co6 : Value).ownBlock)) k_ ∧ some k_ ≠ (u4 : Value).ownBlock) (Kd.R_apart' (Kd.R_apart' (HO137.out) (Kd.S_typed HO_15.out) (by decide)) (Kd.S_typed HO_4.out) (by decide)) (fun k_ hk => ⟨hk.1.2, hk.2⟩))) (fun _ h_ => h_))); (case aB => exact (xB HB.out)); (case aF => exact (fun k_ hk => Kd.fresh' (Kd.S_lt (xS HO_15.out)) k_ hk)); (case aO => exact (by (with_reducible repeat (first | apply Kd.S_alloc | apply Kd.S_drewN | apply Kd.S_drew)); exact Kd.S_mono HO_4.out (fun k_ hk => ⟨hk.1, fun e_ => hk.2 e_⟩))); (case aS => exact (below_size (xB HB.out))); (case aL => have := LMc15.out; omega); intro v139 w18 ho hb hg hat; rw [← Ny138.out] at ho; replace HL130_0 := xA (Kd.R_over' (ok := fun k_ => True ∧ some k_ ≠ (v133 : Value).ownBlock) (by (with_reducible repeat (first | apply Kd.R_alloc | apply Kd.R_drewN | apply Kd.R_drew)); exact HL130_0.out) (Kd.S_typed HO_4.out) (by decide) hg); replace HO_15 := xA (Kd.S_after (ok := (fun k_ => some k_ ≠ (.slice Ao19 y135.length co19 : Value).ownBlock)) (by (with_reducible repeat (first | apply Kd.S_alloc | apply Kd.S_drewN | apply Kd.S_drew)); exact Kd.S_mono HO_15.out (fun _ hk => ⟨hk.2, hk.1⟩)) hg hat); replace HB := xA (hb); have HO140 := xA (ho); clear HO_4 HO137; clear ho hb hg hat))
       go_roundg k3
       case measure => have := HK1.out; have := HK2.out; have := HK3.out; omega
       case rel => exact ⟨(y138), (wrap64 (x7_3 + 1)), xs, H', ⟨by have := HK1.out; have := HK2.out; have := HK3.out; omega⟩, ⟨xS HO140.out⟩, ⟨by (with_reducible repeat (first | apply Kd.S_alloc | apply Kd.S_drewN | apply Kd.S_drew)); exact Kd.S_mono HO_15.out (fun _ hk => hk.2)⟩, ⟨xB HB.out⟩, ⟨Kd.R_mono (xR HL130_0.out) (fun _ _ => trivial)⟩⟩
/-! ### spec_wdShift: function 113 -/
mutual
def spec_wdShift.j0 : Nat → Int → Int → Int → Int → Option (Int)
 | 0, _, _, _, _ => none
 | k + 1, x0, x2, x7, x8 => if x2 = 1 then (if (wrap64 (2 * (wrap64 (x0 - (wrap64 (x8 * x7)))))) ≥ x7 then (spec_wdShift.j1 k x0 x2 x8 (wrap64 (x0 - (wrap64 (x8 * x7)))) (decide ((wrap64 (x0 - (wrap64 (x8 * x7)))) > 0))) else (spec_wdShift.j1 k x0 x2 x8 (wrap64 (x0 - (wrap64 (x8 * x7)))) false)) else (spec_wdShift.j1 k x0 x2 x8 (wrap64 (x0 - (wrap64 (x8 * x7)))) false)
def spec_wdShift.j1 : Nat → Int → Int → Int → Int → Bool → Option (Int)
 | 0, _, _, _, _, _ => none
 | k + 1, x0, x2, x8, x9, x26 => if x26 = true then (some (wrap64 (x8 + 1))) else (if x2 = 2 then (if x0 < 0 then (if x9 > 0 then (some (wrap64 (x8 + 1))) else (some x8)) else (some x8)) else (some x8))
end
def spec_wdShift.f (k : Nat) (a0 : Int) (a1 : Int) (a2 : Int) : Option (Int) := if 0 ≤ a1 then (if (shl .i64 1 a1) = 0 then (none) else (if (Int.tmod a0 (shl .i64 1 a1)) < 0 then (spec_wdShift.j0 k a0 a2 (shl .i64 1 a1) (wrap64 ((wrap64 (Int.tdiv a0 (shl .i64 1 a1))) - 1))) else (spec_wdShift.j0 k a0 a2 (shl .i64 1 a1) (wrap64 (Int.tdiv a0 (shl .i64 1 a1)))))) else (none)
theorem spec_wdShift.mono_l : ∀ k, (∀ y0 y1 y2 y3, LeO (spec_wdShift.j0 k y0 y1 y2 y3) (spec_wdShift.j0 (k + 1) y0 y1 y2 y3)) ∧ (∀ y0 y1 y2 y3 y4, LeO (spec_wdShift.j1 k y0 y1 y2 y3 y4) (spec_wdShift.j1 (k + 1) y0 y1 y2 y3 y4))
 | 0 => ⟨fun _ _ _ _ r h => by simp [spec_wdShift.j0] at h, fun _ _ _ _ _ r h => by simp [spec_wdShift.j1] at h⟩
 | k + 1 => by
  obtain ⟨ih0, ih1⟩ := spec_wdShift.mono_l k
  refine ⟨?_, ?_⟩ <;> intros
  ·unfold spec_wdShift.j0; exact xM
  ·unfold spec_wdShift.j1; exact xM
theorem spec_wdShift.mono : ∀ a0 a1 a2 k, LeO (spec_wdShift.f k a0 a1 a2) (spec_wdShift.f (k + 1) a0 a1 a2) := by
 intro a0 a1 a2 k
 obtain ⟨ih0, ih1⟩ := spec_wdShift.mono_l k
 unfold spec_wdShift.f
 exact xM
set_option maxHeartbeats 200000000 in
set_option maxRecDepth 100000 in
theorem spec_wdShift.calls (k : Nat) (a0 : Int) (a1 : Int) (a2 : Int) (r : Int) (w : World) (h : spec_wdShift.f k a0 a1 a2 = some r) :
  Calls Tryd.prog 113 #[.int .i64 a0, .int .i64 a1, .int .i64 a2] w fun e w' => e = .returned (.int .i64 r) ∧ Drawn0 w w' := by
 have H : (if 0 ≤ a1 then (if (shl .i64 1 a1) = 0 then (none) else (if (Int.tmod a0 (shl .i64 1 a1)) < 0 then (spec_wdShift.j0 k a0 a2 (shl .i64 1 a1) (wrap64 ((wrap64 (Int.tdiv a0 (shl .i64 1 a1))) - 1))) else (spec_wdShift.j0 k a0 a2 (shl .i64 1 a1) (wrap64 (Int.tdiv a0 (shl .i64 1 a1)))))) else (none)) = some r := h
 clear h
 by_cases c4 : 0 ≤ a1
 rotate_left
 ·rw [if_neg c4] at H
  exact absurd H (by simp)

 rw [if_pos c4] at H
 have c4b0 := eq_true c4
 have c4b1 : decide (0 ≤ a1) = true := decide_eq_true c4
 clear c4
 obtain ⟨ji5, hji5⟩ : ∃ j_ : Int, (shl .i64 1 a1) = j_ := ⟨_, rfl⟩
 (first | rw [hji5] at H | simp only [hji5] at H)
 have hji5_ : (IntKind.i64.wrap (1 * 2 ^ min a1.toNat 64)) = ji5 := hji5
 have hji5z : a1 ≤ 64 → (IntKind.i64.wrap (1 * 2 ^ a1.toNat)) = ji5 := shl_small hji5
 have hji5u : (IntKind.i64.wrap (2 ^ min a1.toNat 64)) = ji5 := by have h_ := hji5_; rw [Int.one_mul] at h_; exact h_
 have hji5v : a1 ≤ 64 → (IntKind.i64.wrap (2 ^ a1.toNat)) = ji5 := fun hle_ => by have h_ := hji5z hle_; rw [Int.one_mul] at h_; exact h_
 have hji5y : (wrap64 (1 * 2 ^ min a1.toNat 64)) = ji5 := (i64_w _).symm.trans hji5_
 have hji5x : a1 ≤ 64 → (wrap64 (1 * 2 ^ a1.toNat)) = ji5 := fun h_ => (i64_w _).symm.trans (hji5z h_)
 by_cases c6 : (ji5) = 0
 ·rw [if_pos c6] at H
  exact absurd H (by simp)
 rw [if_neg c6] at H
 have c6b0 : ((ji5) == 0) = false := beq_eq_false_iff_ne.mpr c6
 have c6b1 : ((ji5) != 0) = true := bne_iff_ne.mpr c6
 have HC7 := xA H
 clear H
 go_enter Tryd.func113, Tryd.ntmps113
 go_upto_if 18 with (fail)
 go_cut [8] from 10 to 18 (fun v8 wc => ∃ (kq : Nat) (x8_6 : Int), v8 = .int .i64 x8_6 ∧ Aside0 (spec_wdShift.j0 kq a0 a2 ji5 x8_6 = some r) ∧ Aside0 (kq ≤ k) ∧ Drawn0 w wc)
 case first => as_aux_lemma =>
  have H := HC7.out
  clear HC7
  by_cases c8 : (Int.tmod a0 (ji5)) < 0
  rotate_left
  ·rw [if_neg c8] at H
   have c8b0 : decide ((Int.tmod a0 (ji5)) < 0) = false := decide_eq_false c8
   clear c8
   (first | rw [c8b0] | (simp only [i64_w, i32_w]; rw [c8b0]) | skip)
   have H' := xA H
   clear H
   go_wp2
   go_meet
   case rel => exact ⟨_, (wrap64 (Int.tdiv a0 (ji5))), (by first | rfl | (simp; done) | (simp only [← hji5] <;> (first | rfl | simp)) | (simp [*]; done)), H', ⟨by first | omega | exact Nat.le_refl _⟩, by repeat (first | exact Drawn0.refl _ | apply Drawn0.step)⟩
  rw [if_pos c8] at H
  have c8b0 : decide ((Int.tmod a0 (ji5)) < 0) = true := decide_eq_true c8
  clear c8
  (first | rw [c8b0] | (simp only [i64_w, i32_w]; rw [c8b0]) | skip)
  have H' := xA H
  clear H
  go_wp2
  go_meet
  case rel => exact ⟨_, (wrap64 ((wrap64 (Int.tdiv a0 (ji5))) - 1)), (by first | rfl | (simp; done) | (simp only [← hji5] <;> (first | rfl | simp)) | (simp [*]; done)), H', ⟨by first | omega | exact Nat.le_refl _⟩, by repeat (first | exact Drawn0.refl _ | apply Drawn0.step)⟩
 case rest => as_aux_lemma =>
  clear HC7
  try clear c4b0
  try clear c4b1
  try clear c6
  try clear c6b0
  try clear c6b1
  obtain ⟨kq, x8_6, rfl, HA, HJ6, ⟨mc6, rfl⟩⟩ := hcut
  cases kq with
  | zero => exact absurd HA.out (by simp [spec_wdShift.j0])
  | succ kj6 =>
   have H := HA.out
   clear HA
   simp only [spec_wdShift.j0] at H
   have HC9 := xA H
   clear H
   go_upto_region 6 with (fail)
   go_cut [26] from 19 to 25 (fun v26 wc => ∃ (kq : Nat) (x26_8 : Bool), v26 = .bool x26_8 ∧ Aside0 (spec_wdShift.j1 kq a0 a2 x8_6 (wrap64 (a0 - (wrap64 (x8_6 * ji5)))) x26_8 = some r) ∧ Aside0 (kq ≤ kj6) ∧ Drawn0 w wc)
   case first => as_aux_lemma =>
    have H := HC9.out
    clear HC9
    by_cases c10 : a2 = 1
    rotate_left
    ·rw [if_neg c10] at H
     have c10b0 : (a2 == 1) = false := beq_eq_false_iff_ne.mpr c10
     have c10b1 : (a2 != 1) = true := bne_iff_ne.mpr c10
     (first | rw [c10b0] | (simp only [i64_w, i32_w]; rw [c10b0]) | skip)
     have H' := xA H
     clear H
     go_wp2
     go_meet
     case rel => exact ⟨_, (false), xs, H', ⟨by have := HJ6.out; first | omega | exact Nat.le_refl _⟩, by repeat (first | exact Drawn0.refl _ | apply Drawn0.step)⟩
    rw [if_pos c10] at H
    have c10b0 : (a2 == 1) = true := beq_iff_eq.mpr c10
    have c10b1 : (a2 != 1) = false := bne_eq_false_iff_eq.mpr c10
    clear c10
    (first | rw [c10b0] | (simp only [i64_w, i32_w]; rw [c10b0]) | skip)
    by_cases c11 : (wrap64 (2 * (wrap64 (a0 - (wrap64 (x8_6 * ji5)))))) ≥ ji5
    rotate_left
    ·rw [if_neg c11] at H
     have c11b0 : decide (ji5 ≤ (wrap64 (2 * (wrap64 (a0 - (wrap64 (x8_6 * ji5))))))) = false := decide_eq_false c11
     clear c11
     have H' := xA H
     clear H
     go_wp2
     go_meet
     case rel => exact ⟨_, (false), xs, H', ⟨by have := HJ6.out; first | omega | exact Nat.le_refl _⟩, by repeat (first | exact Drawn0.refl _ | apply Drawn0.step)⟩
    rw [if_pos c11] at H
    have c11b0 : decide (ji5 ≤ (wrap64 (2 * (wrap64 (a0 - (wrap64 (x8_6 * ji5))))))) = true := decide_eq_true c11
    clear c11
    have H' := xA H
    clear H
    go_wp2
    go_meet
    case rel => exact ⟨_, (decide ((wrap64 (a0 - (wrap64 (x8_6 * ji5)))) > 0)), (by first | rfl | (simp; done) | (simp only [← hji5] <;> (first | rfl | simp)) | (simp [*]; done)), H', ⟨by have := HJ6.out; first | omega | exact Nat.le_refl _⟩, by repeat (first | exact Drawn0.refl _ | apply Drawn0.step)⟩
   case rest => as_aux_lemma =>
    clear HC9
    obtain ⟨kq, x26_8, rfl, HA, HJ8, ⟨mc8, rfl⟩⟩ := hcut
    cases kq with
    | zero => exact absurd HA.out (by simp [spec_wdShift.j1])
    | succ kj8 =>
     have H := HA.out
     clear HA
     simp only [spec_wdShift.j1] at H
     by_cases c12 : x26_8 = true
     ·subst c12
      rw [if_pos rfl] at H
      obtain rfl := Option.some.inj H
      go_wp2
      go_ret
      exact ⟨by first | rfl | (simp; done) | (simp only [← hji5] <;> (first | rfl | simp)) | (simp [*]; done), by repeat (first | exact Drawn0.refl _ | apply Drawn0.step)⟩
     replace c12 := Bool.eq_false_iff.mpr c12
     subst c12
     rw [if_neg (show ¬ (false = true) by decide)] at H
     by_cases c13 : a2 = 2
     rotate_left
     ·rw [if_neg c13] at H
      have c13b0 : (a2 == 2) = false := beq_eq_false_iff_ne.mpr c13
      have c13b1 : (a2 != 2) = true := bne_iff_ne.mpr c13
      obtain rfl := Option.some.inj H
      go_wp2
      go_ret
      exact ⟨by first | rfl | (simp; done) | (simp only [← hji5] <;> (first | rfl | simp)) | (simp [*]; done), by repeat (first | exact Drawn0.refl _ | apply Drawn0.step)⟩
     rw [if_pos c13] at H
     have c13b0 : (a2 == 2) = true := beq_iff_eq.mpr c13
     have c13b1 : (a2 != 2) = false := bne_eq_false_iff_eq.mpr c13
     clear c13
     by_cases c14 : a0 < 0
     rotate_left
     ·rw [if_neg c14] at H
      have c14b0 : decide (a0 < 0) = false := decide_eq_false c14
      clear c14
      obtain rfl := Option.some.inj H
      go_wp2
      go_ret
      exact ⟨by first | rfl | (simp; done) | (simp only [← hji5] <;> (first | rfl | simp)) | (simp [*]; done), by repeat (first | exact Drawn0.refl _ | apply Drawn0.step)⟩
     rw [if_pos c14] at H
     have c14b0 : decide (a0 < 0) = true := decide_eq_true c14
     clear c14
     by_cases c15 : (wrap64 (a0 - (wrap64 (x8_6 * ji5)))) > 0
     rotate_left
     ·rw [if_neg c15] at H
      have c15b0 : decide (0 < (wrap64 (a0 - (wrap64 (x8_6 * ji5))))) = false := decide_eq_false c15
      clear c15
      obtain rfl := Option.some.inj H
      go_wp2
      go_ret
      exact ⟨by first | rfl | (simp; done) | (simp only [← hji5] <;> (first | rfl | simp)) | (simp [*]; done), by repeat (first | exact Drawn0.refl _ | apply Drawn0.step)⟩
     rw [if_pos c15] at H
     have c15b0 : decide (0 < (wrap64 (a0 - (wrap64 (x8_6 * ji5))))) = true := decide_eq_true c15
     clear c15
     obtain rfl := Option.some.inj H
     go_wp2
     go_ret
     exact ⟨by first | rfl | (simp; done) | (simp only [← hji5] <;> (first | rfl | simp)) | (simp [*]; done), by repeat (first | exact Drawn0.refl _ | apply Drawn0.step)⟩
/-! ### spec_foRaw: function 107 -/
def spec_foRaw.f (k : Nat) (a0_0 : Int) (a0_1 : Int) (a0_2 : Int) (a0_3 : Int) (a0_4 : Bool) (a1 : Int) (a2 : Int) : Option (Int) := (spec_wdShift.f k (wrap64 (a0_0 * a1)) a0_1 a0_2).bind fun t142 => (some (wrap64 (t142 + a2)))
theorem spec_foRaw.mono : ∀ a0 a1 a2 a3 a4 a5 a6 k, LeO (spec_foRaw.f k a0 a1 a2 a3 a4 a5 a6) (spec_foRaw.f (k + 1) a0 a1 a2 a3 a4 a5 a6) := by
 intro a0 a1 a2 a3 a4 a5 a6 k
 have m0 := @spec_wdShift.mono
 unfold spec_foRaw.f
 exact xM
set_option maxHeartbeats 200000000 in
set_option maxRecDepth 100000 in
theorem spec_foRaw.calls (k : Nat) (a0_0 : Int) (a0_1 : Int) (a0_2 : Int) (a0_3 : Int) (a0_4 : Bool) (a1 : Int) (a2 : Int) (r : Int) (w : World) (h : spec_foRaw.f k a0_0 a0_1 a0_2 a0_3 a0_4 a1 a2 = some r) :
  Calls Tryd.prog 107 #[.agg #[.int .i64 a0_0, .int .i64 a0_1, .int .i64 a0_2, .int .i64 a0_3, .bool a0_4], .int .i64 a1, .int .i64 a2] w fun e w' => e = .returned (.int .i64 r) ∧ Below w.heap.size w w' := by
 have hu79 := Tryd.underlying79
 have HB := xA (Below.refl w.heap.size w)
 have H : ((spec_wdShift.f k (wrap64 (a0_0 * a1)) a0_1 a0_2).bind fun t142 => (some (wrap64 (t142 + a2)))) = some r := h
 clear h
 obtain ⟨t142, A4, H⟩ := xO H
 (try dsimp only at H)
 obtain rfl := Option.some.inj H
 go_enter Tryd.func107, Tryd.ntmps107
 go_wp2_with (first | (refine xg 3 rfl ?_; refine xV 3 #[.int .i64 a0_0, .int .i64 a0_1, .int .i64 a0_2, .int .i64 a0_3, .bool a0_4] 79 ?_; intro gb141 hg w5 hbox hb; have BK141 := xA (hbox); have GW141 := xgw hg (below_size (xB HB.out)); have GE141 := GW141; replace HB := xA (below_step (xB HB.out) hb); clear hb hbox hg; obtain ⟨hcz6_0, hcz6_1, hcz6_2, hcz6_3, hcz6_4, hfz6_0, hfz6_1, hfz6_2, hfz6_3, hfz6_4⟩ := xZ5 BK141.out) | (refine xG (some 15) Tryd.func113 #[.int .i64 (wrap64 (a0_0 * a1)), .int .i64 a0_1, .int .i64 a0_2] ?_; (with_reducible refine (spec_wdShift.calls k (wrap64 (a0_0 * a1)) a0_1 a0_2 t142 _ A4.out).mono ?_); rintro e w' ⟨rfl, ⟨nd, rfl⟩⟩; refine ⟨_, rfl, ?_⟩))
 go_ret
 exact ⟨xr, xB1 GE141.out HB.out⟩

/-! ### spec_l1Least: function 114 -/
def spec_l1Least.f (a0 : Int) (a1 : Int) : Option (Int) := if a0 < a1 then (some a0) else (some a1)
set_option maxHeartbeats 200000000 in
set_option maxRecDepth 100000 in
theorem spec_l1Least.calls (a0 : Int) (a1 : Int) (r : Int) (w : World) (h : spec_l1Least.f a0 a1 = some r) :
  Calls Tryd.prog 114 #[.int .i64 a0, .int .i64 a1] w fun e w' => e = .returned (.int .i64 r) ∧ Drawn0 w w' := by
 have H : (if a0 < a1 then (some a0) else (some a1)) = some r := h
 clear h
 by_cases c3 : a0 < a1
 ·rw [if_pos c3] at H
  have c3b0 : decide (a0 < a1) = true := decide_eq_true c3
  clear c3
  obtain rfl := Option.some.inj H
  go_enter Tryd.func114, Tryd.ntmps114
  go_wp2
  go_ret
  exact ⟨by first | rfl | (simp; done) | (simp [*]; done), by repeat (first | exact Drawn0.refl _ | apply Drawn0.step)⟩
 rw [if_neg c3] at H
 have c3b0 : decide (a0 < a1) = false := decide_eq_false c3
 clear c3
 obtain rfl := Option.some.inj H
 go_enter Tryd.func114, Tryd.ntmps114
 go_wp2
 go_ret
 exact ⟨by first | rfl | (simp; done) | (simp [*]; done), by repeat (first | exact Drawn0.refl _ | apply Drawn0.step)⟩

/-! ### spec_wdHigh: function 115 -/
def spec_wdHigh.f (a0_0 : Int) (a0_1 : Bool) : Option (Int) := if 0 ≤ (wrap64 (a0_0 - 1)) then (some (wrap64 ((shl .i64 1 (wrap64 (a0_0 - 1))) - 1))) else (none)
set_option maxHeartbeats 200000000 in
set_option maxRecDepth 100000 in
theorem spec_wdHigh.calls (a0_0 : Int) (a0_1 : Bool) (r : Int) (w : World) (h : spec_wdHigh.f a0_0 a0_1 = some r) :
  Calls Tryd.prog 115 #[.agg #[.int .i64 a0_0, .bool a0_1]] w fun e w' => e = .returned (.int .i64 r) ∧ Below w.heap.size w w' := by
 have hu77 := Tryd.underlying77
 have HB := xA (Below.refl w.heap.size w)
 have H : (if 0 ≤ (wrap64 (a0_0 - 1)) then (some (wrap64 ((shl .i64 1 (wrap64 (a0_0 - 1))) - 1))) else (none)) = some r := h
 clear h
 obtain ⟨ji2, hji2⟩ : ∃ j_ : Int, (wrap64 (a0_0 - 1)) = j_ := ⟨_, rfl⟩
 (first | rw [hji2] at H | simp only [hji2] at H)
 have hji2w : (IntKind.i64.wrap (a0_0 - 1)) = ji2 := (i64_w _).trans hji2
 by_cases c3 : 0 ≤ (ji2)
 rotate_left
 ·rw [if_neg c3] at H
  exact absurd H (by simp)

 rw [if_pos c3] at H
 have c3b0 := eq_true c3
 have c3b1 : decide (0 ≤ (ji2)) = true := decide_eq_true c3
 clear c3
 obtain ⟨ji4, hji4⟩ : ∃ j_ : Int, (shl .i64 1 (ji2)) = j_ := ⟨_, rfl⟩
 (first | rw [hji4] at H | simp only [hji4] at H)
 have hji4_ : (IntKind.i64.wrap (1 * 2 ^ min (ji2).toNat 64)) = ji4 := hji4
 have hji4z : (ji2) ≤ 64 → (IntKind.i64.wrap (1 * 2 ^ (ji2).toNat)) = ji4 := shl_small hji4
 have hji4u : (IntKind.i64.wrap (2 ^ min (ji2).toNat 64)) = ji4 := by have h_ := hji4_; rw [Int.one_mul] at h_; exact h_
 have hji4v : (ji2) ≤ 64 → (IntKind.i64.wrap (2 ^ (ji2).toNat)) = ji4 := fun hle_ => by have h_ := hji4z hle_; rw [Int.one_mul] at h_; exact h_
 have hji4y : (wrap64 (1 * 2 ^ min (ji2).toNat 64)) = ji4 := (i64_w _).symm.trans hji4_
 have hji4x : (ji2) ≤ 64 → (wrap64 (1 * 2 ^ (ji2).toNat)) = ji4 := fun h_ => (i64_w _).symm.trans (hji4z h_)
 obtain rfl := Option.some.inj H
 go_enter Tryd.func115, Tryd.ntmps115
 go_wp2_with (first | (refine xg 1 rfl ?_; refine xV 1 #[.int .i64 a0_0, .bool a0_1] 77 ?_; intro gb143 hg w5 hbox hb; have BK143 := xA (hbox); have GW143 := xgw hg (below_size (xB HB.out)); have GE143 := GW143; replace HB := xA (below_step (xB HB.out) hb); clear hb hbox hg; obtain ⟨hcz6_0, hcz6_1, hfz6_0, hfz6_1⟩ := xZ2 BK143.out))
 go_ret
 exact ⟨by first | rfl | (simp [errW_none, errW_some] <;> rfl) | (simp only [← hji2, ← hji4]; first | rfl | (simp [errW_none, errW_some] <;> rfl)) | (simp [*, errW_none, errW_some] <;> rfl), xB1 GE143.out HB.out⟩
/-! ### spec_l1Most: function 116 -/
def spec_l1Most.f (a0 : Int) (a1 : Int) : Option (Int) := if a0 > a1 then (some a0) else (some a1)
set_option maxHeartbeats 200000000 in
set_option maxRecDepth 100000 in
theorem spec_l1Most.calls (a0 : Int) (a1 : Int) (r : Int) (w : World) (h : spec_l1Most.f a0 a1 = some r) :
  Calls Tryd.prog 116 #[.int .i64 a0, .int .i64 a1] w fun e w' => e = .returned (.int .i64 r) ∧ Drawn0 w w' := by
 have H : (if a0 > a1 then (some a0) else (some a1)) = some r := h
 clear h
 by_cases c3 : a0 > a1
 ·rw [if_pos c3] at H
  have c3b0 : decide (a1 < a0) = true := decide_eq_true c3
  clear c3
  obtain rfl := Option.some.inj H
  go_enter Tryd.func116, Tryd.ntmps116
  go_wp2
  go_ret
  exact ⟨by first | rfl | (simp; done) | (simp [*]; done), by repeat (first | exact Drawn0.refl _ | apply Drawn0.step)⟩
 rw [if_neg c3] at H
 have c3b0 : decide (a1 < a0) = false := decide_eq_false c3
 clear c3
 obtain rfl := Option.some.inj H
 go_enter Tryd.func116, Tryd.ntmps116
 go_wp2
 go_ret
 exact ⟨by first | rfl | (simp; done) | (simp [*]; done), by repeat (first | exact Drawn0.refl _ | apply Drawn0.step)⟩

/-! ### spec_wdLow: function 117 -/
def spec_wdLow.f (a0_0 : Int) (a0_1 : Bool) : Option (Int) := if 0 ≤ (wrap64 (a0_0 - 1)) then (some (wrap64 (-(shl .i64 1 (wrap64 (a0_0 - 1)))))) else (none)
set_option maxHeartbeats 200000000 in
set_option maxRecDepth 100000 in
theorem spec_wdLow.calls (a0_0 : Int) (a0_1 : Bool) (r : Int) (w : World) (h : spec_wdLow.f a0_0 a0_1 = some r) :
  Calls Tryd.prog 117 #[.agg #[.int .i64 a0_0, .bool a0_1]] w fun e w' => e = .returned (.int .i64 r) ∧ Below w.heap.size w w' := by
 have hu77 := Tryd.underlying77
 have HB := xA (Below.refl w.heap.size w)
 have H : (if 0 ≤ (wrap64 (a0_0 - 1)) then (some (wrap64 (-(shl .i64 1 (wrap64 (a0_0 - 1)))))) else (none)) = some r := h
 clear h
 obtain ⟨ji2, hji2⟩ : ∃ j_ : Int, (wrap64 (a0_0 - 1)) = j_ := ⟨_, rfl⟩
 (first | rw [hji2] at H | simp only [hji2] at H)
 have hji2w : (IntKind.i64.wrap (a0_0 - 1)) = ji2 := (i64_w _).trans hji2
 by_cases c3 : 0 ≤ (ji2)
 rotate_left
 ·rw [if_neg c3] at H
  exact absurd H (by simp)

 rw [if_pos c3] at H
 have c3b0 := eq_true c3
 have c3b1 : decide (0 ≤ (ji2)) = true := decide_eq_true c3
 clear c3
 obtain ⟨ji4, hji4⟩ : ∃ j_ : Int, (shl .i64 1 (ji2)) = j_ := ⟨_, rfl⟩
 (first | rw [hji4] at H | simp only [hji4] at H)
 have hji4_ : (IntKind.i64.wrap (1 * 2 ^ min (ji2).toNat 64)) = ji4 := hji4
 have hji4z : (ji2) ≤ 64 → (IntKind.i64.wrap (1 * 2 ^ (ji2).toNat)) = ji4 := shl_small hji4
 have hji4u : (IntKind.i64.wrap (2 ^ min (ji2).toNat 64)) = ji4 := by have h_ := hji4_; rw [Int.one_mul] at h_; exact h_
 have hji4v : (ji2) ≤ 64 → (IntKind.i64.wrap (2 ^ (ji2).toNat)) = ji4 := fun hle_ => by have h_ := hji4z hle_; rw [Int.one_mul] at h_; exact h_
 have hji4y : (wrap64 (1 * 2 ^ min (ji2).toNat 64)) = ji4 := (i64_w _).symm.trans hji4_
 have hji4x : (ji2) ≤ 64 → (wrap64 (1 * 2 ^ (ji2).toNat)) = ji4 := fun h_ => (i64_w _).symm.trans (hji4z h_)
 obtain rfl := Option.some.inj H
 go_enter Tryd.func117, Tryd.ntmps117
 go_wp2_with (first | (refine xg 1 rfl ?_; refine xV 1 #[.int .i64 a0_0, .bool a0_1] 77 ?_; intro gb144 hg w5 hbox hb; have BK144 := xA (hbox); have GW144 := xgw hg (below_size (xB HB.out)); have GE144 := GW144; replace HB := xA (below_step (xB HB.out) hb); clear hb hbox hg; obtain ⟨hcz6_0, hcz6_1, hfz6_0, hfz6_1⟩ := xZ2 BK144.out))
 go_ret
 exact ⟨by first | rfl | (simp [errW_none, errW_some] <;> rfl) | (simp only [← hji2, ← hji4]; first | rfl | (simp [errW_none, errW_some] <;> rfl)) | (simp [*, errW_none, errW_some] <;> rfl), xB1 GE144.out HB.out⟩
end Go.Proofs.YtjplcongellcmaaDoor.PFnExactCountOutputs
