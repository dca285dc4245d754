/- What each Go function that the statement FnFirstCycles reaches answers, proved call by call. No condition beyond those that the theorems print. (Written by wip/tools/xprint.py of this repo, over the kit's print.) -/
import Derived.Test.YtjplcongellcmaaPFnFirstCyclesx0
import Derived.Test.YtjplcongellcmaaPFnFirstCyclesx1
import Derived.Test.YtjplcongellcmaaPFnFirstCyclesx4
import Derived.Test.YtjplcongellcmaaPFnFirstCyclesx5
import Derived.Test.YtjplcongellcmaaPFnFirstCyclesx7
import Derived.Test.YtjplcongellcmaaPFnFirstCyclesx10
namespace Go.Proofs.Ytjplcongellcmaa.PFnFirstCycles
open Go.RowKit Go.Proofs.YtjplcongellcmaaW.PrintWords Go.Proofs.YtjplcongellcmaaW.PrintLast Go.Proofs.YtjplcongellcmaaW.PrintMore
attribute [local go_sem] max2_int min2_int max_two min_two max_three min_three max_four min_four   -- for this text's walks alone
set_option linter.unusedVariables false
set_option linter.unusedSimpArgs false

/-! ### slices_Concat_int_int: function 312 -/
mutual
def slices_Concat_int_int.l0 : Nat → List (List Int) → Int → List (List Int) → Int → Int → Option (List Int)
 | 0, _, _, _, _, _ => none
 | k + 1, x0, x3, x9, x10, x11 => if x11 < x10 then (if 0 ≤ x11 then (if x11 < (x9.length : Int) then (if (wrap64 (x3 + ((rd_L5 x9 x11).length : Int))) < 0 then (none) else (slices_Concat_int_int.l0 k x0 (wrap64 (x3 + ((rd_L5 x9 x11).length : Int))) x9 x10 (wrap64 (x11 + 1)))) else (none)) else (none)) else ((slices_Grow_int_int.f x3).bind fun t488 => (slices_Concat_int_int.l1 k t488 x0 (x0.length : Int) 0))
def slices_Concat_int_int.l1 : Nat → List Int → List (List Int) → Int → Int → Option (List Int)
 | 0, _, _, _, _ => none
 | k + 1, x6, x25, x26, x27 => if x27 < x26 then (if 0 ≤ x27 then (if x27 < (x25.length : Int) then (if x6.length + (rd_L5 x25 x27).length < 17592186044416 then (slices_Concat_int_int.l1 k (x6 ++ (rd_L5 x25 x27)) x25 x26 (wrap64 (x27 + 1))) else (none)) else (none)) else (none)) else (some x6)
end
def slices_Concat_int_int.f (k : Nat) (l0 : List (List Int)) : Option (List Int) := slices_Concat_int_int.l0 k l0 0 l0 (l0.length : Int) 0
theorem slices_Concat_int_int.mono_l : ∀ k, (∀ y0 y1 y2 y3 y4, LeO (slices_Concat_int_int.l0 k y0 y1 y2 y3 y4) (slices_Concat_int_int.l0 (k + 1) y0 y1 y2 y3 y4)) ∧ (∀ y0 y1 y2 y3, LeO (slices_Concat_int_int.l1 k y0 y1 y2 y3) (slices_Concat_int_int.l1 (k + 1) y0 y1 y2 y3))
 | 0 => ⟨fun _ _ _ _ _ r h => by simp [slices_Concat_int_int.l0] at h, fun _ _ _ _ r h => by simp [slices_Concat_int_int.l1] at h⟩
 | k + 1 => by
  obtain ⟨ih0, ih1⟩ := slices_Concat_int_int.mono_l k
  refine ⟨?_, ?_⟩ <;> intros
  ·unfold slices_Concat_int_int.l0; exact xM
  ·unfold slices_Concat_int_int.l1; exact xM
theorem slices_Concat_int_int.mono : ∀ a0 k, LeO (slices_Concat_int_int.f k a0) (slices_Concat_int_int.f (k + 1) a0) := by
 intro a0 k
 obtain ⟨ih0, ih1⟩ := slices_Concat_int_int.mono_l k
 unfold slices_Concat_int_int.f
 exact xM
set_option maxHeartbeats 200000000 in
set_option maxRecDepth 100000 in
theorem slices_Concat_int_int.calls (k : Nat) (A0 : Option Addr) (c0 : Nat) (l0 : List (List Int)) (r : List Int) (w : World) (hr0 : Kd.C (Kd.slice 3 (Kd.int .i64)) w A0 l0.length l0) (hc0 : l0.length ≤ c0) (h : slices_Concat_int_int.f k l0 = some r) :
  Calls Try.prog 312 #[.slice A0 l0.length c0] w fun e w' => ∃ v0_ : Value, e = .returned (v0_) ∧ Kd.R (Kd.int .i64) 3 w' w.heap.size (fun _ => True) v0_ r ∧ Below w.heap.size w w' := by
 have HR0 := xA hr0
 have HC0 := xA hc0
 clear hr0 hc0
 have HB := xA (Below.refl w.heap.size w)
 have H : (slices_Concat_int_int.l0 k l0 0 l0 (l0.length : Int) 0) = some r := h
 clear h
 have H' := xA H
 clear H
 go_enter Try.func312, Try.ntmps312
 go_wp2
 go_loopg [3, 11] k (fun kq v3 v11 w' => ∃ (x3_1 : Int) (x11_1 : Int), v3 = .int .i64 x3_1 ∧ v11 = .int .i64 x11_1 ∧ Aside0 (slices_Concat_int_int.l0 kq l0 x3_1 l0 (l0.length : Int) x11_1 = some r) ∧ Aside0 (kq ≤ k) ∧ Aside0 (Below w.heap.size w w'))
 case atStart => exact ⟨(0), (0), xs, xs, H', ⟨Nat.le_refl _⟩, ⟨xB HB.out⟩⟩
 case round =>
  clear H'
  obtain ⟨x3_1, x11_1, rfl, rfl, HA, HK1, HB⟩ := hrel
  cases gk with
  | zero => exact absurd HA.out (by simp [slices_Concat_int_int.l0])
  | succ k1 =>
   have H := HA.out
   clear HA
   simp only [slices_Concat_int_int.l0] at H
   by_cases c2 : x11_1 < (l0.length : Int)
   ·rw [if_pos c2] at H
    have c2b0 : decide (x11_1 < (l0.length : Int)) = true := decide_eq_true c2
    clear c2
    by_cases c3 : 0 ≤ x11_1
    rotate_left
    ·rw [if_neg c3] at H
     exact absurd H (by simp)
    rw [if_pos c3] at H
    have c3b0 : decide (0 ≤ x11_1) = true := decide_eq_true c3
    clear c3
    by_cases c4 : x11_1 < (l0.length : Int)
    rotate_left
    ·rw [if_neg c4] at H
     exact absurd H (by simp)
    rw [if_pos c4] at H
    have c4b0 : decide (x11_1 < (l0.length : Int)) = true := decide_eq_true c4
    clear c4
    by_cases c5 : (wrap64 (x3_1 + ((rd_L5 l0 x11_1).length : Int))) < 0
    ·rw [if_pos c5] at H
     exact absurd H (by simp)
    rw [if_neg c5] at H
    have c5b0 : decide ((wrap64 (x3_1 + ((rd_L5 l0 x11_1).length : Int))) < 0) = false := decide_eq_false c5
    clear c5
    have H' := xA H
    clear H
    have p487 : 0 ≤ (x11_1 : Int) := of_decide_eq_true (by first | (with_reducible assumption) | assumption)
    have q487 : x11_1 < (l0.length : Int) := of_decide_eq_true (by first | (with_reducible assumption) | assumption)
    obtain ⟨ad487, A487_0, c487_0, e487, hx487_0, hl487_0, hi487_0⟩ := at_L5 HR0.out x11_1 p487 q487
    cases e487
    replace hx487_0 := (HB.out.cell (World.block_lt_of_cell? w _ hx487_0)).trans hx487_0
    have HR487_0 := xA hi487_0
    have HC487_0 := xA hl487_0
    clear hi487_0 hl487_0
    replace p487 := eq_true p487
    replace q487 := eq_true q487
    go_wp2
    go_roundg k1
    case measure => have := HK1.out; omega
    case rel => exact ⟨(wrap64 (x3_1 + ((rd_L5 l0 x11_1).length : Int))), (wrap64 (x11_1 + 1)), xs, xs, H', ⟨by have := HK1.out; omega⟩, ⟨xB HB.out⟩⟩
   rw [if_neg c2] at H
   have c2b0 : decide (x11_1 < (l0.length : Int)) = false := decide_eq_false c2
   clear c2
   obtain ⟨t488, A6, H⟩ := xO H
   (try dsimp only at H)
   have H' := xA H
   clear H
   go_wp2_with (first | (refine xG (some 24) Try.func387 #[.slice none 0 0, .int .i64 x3_1] ?_; (with_reducible refine (slices_Grow_int_int.calls x3_1 t488 _ A6.out).mono ?_); rintro e w7 ⟨v489, rfl, ho0, hb⟩; refine ⟨_, rfl, ?_⟩; have HO490 := xA (Kd.R_lower ho0 (below_size (xB HB.out))); replace HB := xA (below_step (xB HB.out) hb); (try clear hb); (try clear ho0)))
   go_loopg [6, 27] k1 (fun kq v6 v27 w' => ∃ (x6_2 : List Int) (x27_2 : Int), v27 = .int .i64 x27_2 ∧ Aside0 (slices_Concat_int_int.l1 kq x6_2 l0 (l0.length : Int) x27_2 = some r) ∧ Aside0 (kq ≤ k1) ∧ Aside0 (Kd.R (Kd.int .i64) 3 w' w.heap.size (fun _ => True) v6 x6_2) ∧ Aside0 (Below w.heap.size w w'))
   case atStart => exact ⟨(t488), (0), xs, H', ⟨Nat.le_refl _⟩, ⟨xR HO490.out⟩, ⟨xB HB.out⟩⟩
   case round =>
    clear H'
    try clear c2b0
    obtain ⟨x6_2, x27_2, rfl, HA, HK2, HO_6, HB⟩ := hrel
    cases gk with
    | zero => exact absurd HA.out (by simp [slices_Concat_int_int.l1])
    | succ k2 =>
     have H := HA.out
     clear HA
     simp only [slices_Concat_int_int.l1] at H
     by_cases c8 : x27_2 < (l0.length : Int)
     rotate_left
     ·rw [if_neg c8] at H
      have c8b0 : decide (x27_2 < (l0.length : Int)) = false := decide_eq_false c8
      clear c8
      obtain rfl := Option.some.inj H
      go_wp2
      go_ret
      exact ⟨_, xr, xR HO_6.out, xB HB.out⟩

     rw [if_pos c8] at H
     have c8b0 : decide (x27_2 < (l0.length : Int)) = true := decide_eq_true c8
     clear c8
     by_cases c9 : 0 ≤ x27_2
     rotate_left
     ·rw [if_neg c9] at H
      exact absurd H (by simp)
     rw [if_pos c9] at H
     have c9b0 : decide (0 ≤ x27_2) = true := decide_eq_true c9
     clear c9
     by_cases c10 : x27_2 < (l0.length : Int)
     rotate_left
     ·rw [if_neg c10] at H
      exact absurd H (by simp)
     rw [if_pos c10] at H
     have c10b0 : decide (x27_2 < (l0.length : Int)) = true := decide_eq_true c10
     clear c10
     by_cases c11 : x6_2.length + (rd_L5 l0 x27_2).length < 17592186044416
     rotate_left
     ·rw [if_neg c11] at H
      exact absurd H (by simp)
     rw [if_pos c11] at H
     have LMc11 := xA c11
     clear c11
     obtain ⟨y492, hy492⟩ : ∃ y_ : List Int, y_ = (x6_2 ++ (rd_L5 l0 x27_2)) := ⟨_, rfl⟩
     replace H : (slices_Concat_int_int.l1 k2 y492 l0 (l0.length : Int) (wrap64 (x27_2 + 1))) = some r := by first | (rw [hy492]; with_reducible exact H) | (have H2_ := (Option.bind_some _ _).symm.trans H; rw [hy492]; with_reducible exact H2_) | (have H2_ := (Option.bind_some _ _).symm.trans H; with_reducible exact H2_) | with_reducible exact H | (rw [hy492]; exact H) | exact H
     have Ny492 := xA hy492
     clear hy492
     have H' := xA H
     clear H
     have p491 : 0 ≤ (x27_2 : Int) := of_decide_eq_true (by first | (with_reducible assumption) | assumption)
     have q491 : x27_2 < (l0.length : Int) := of_decide_eq_true (by first | (with_reducible assumption) | assumption)
     obtain ⟨ad491, A491_0, c491_0, e491, hx491_0, hl491_0, hi491_0⟩ := at_L5 HR0.out x27_2 p491 q491
     cases e491
     replace hx491_0 := (HB.out.cell (World.block_lt_of_cell? w _ hx491_0)).trans hx491_0
     have HR491_0 := xA hi491_0
     have HC491_0 := xA hl491_0
     clear hi491_0 hl491_0
     replace p491 := eq_true p491
     replace q491 := eq_true q491
     go_wp2_with (first | ((with_reducible refine gate_builtin (b := .append) (xs := #[.tmp 31, .tmp 32]) rfl ?_); at_builtin; refine Kd.R_append_rows (Kd.int .i64) (w0 := w) w.heap.size rfl (.tmp 31) (.tmp 32) 24 3 (.int .i64 0) 8 rfl Try.underlying24 info3 rfl (by decide) (by omega) u6 x6_2 (rd_L5 l0 x27_2) _ _ _ (fun _ => True) (fun _ => False) rfl rfl ?aO ?aR (fun _ _ h => h) (fun _ h => h.elim) ?aF ?aB ?aS ?aL ?_; (case aR => exact xC (Kd.C_below HR491_0.out HB.out)); (case aB => exact (xB HB.out)); (case aF => exact (fun _ _ => trivial)); (case aO => exact (xR HO_6.out)); (case aS => exact (below_size (xB HB.out))); (case aL => have := LMc11.out; omega); intro v493 w12 ho hb hg hat; rw [← Ny492.out] at ho; replace HB := xA (hb); have HO494 := xA (ho); clear HO_6; clear ho hb hg hat))
     go_roundg k2
     case measure => have := HK1.out; have := HK2.out; omega
     case rel => exact ⟨(y492), (wrap64 (x27_2 + 1)), xs, H', ⟨by have := HK1.out; have := HK2.out; omega⟩, ⟨xR HO494.out⟩, ⟨xB HB.out⟩⟩
/-! ### impl_DeadBand: function 116 -/
def impl_DeadBand.f (k : Nat) (a0_0 : Int) (a0_1 : Int) (a0_2 : Int) (a0_3 : Int) (a0_4 : Bool) : Option (Int × Bool) := (impl_First_isScanned.f a0_0 a0_1 a0_2 a0_3 a0_4 0).bind fun t496 => (if t496 = true then ((impl_First_cycles.f k a0_0 a0_1 a0_2 a0_3 a0_4 0).bind fun t497 => ((slices_Concat_int_int.f k t497).bind fun t500 => ((impl_peak.f k t500).bind fun t503 => (some (t503, true))))) else (some (0, false)))
theorem impl_DeadBand.mono : ∀ a0 a1 a2 a3 a4 k, LeO (impl_DeadBand.f k a0 a1 a2 a3 a4) (impl_DeadBand.f (k + 1) a0 a1 a2 a3 a4) := by
 intro a0 a1 a2 a3 a4 k
 have m0 := @impl_First_cycles.mono
 have m1 := @impl_peak.mono
 have m2 := @slices_Concat_int_int.mono
 unfold impl_DeadBand.f
 exact xM
set_option maxHeartbeats 200000000 in
set_option maxRecDepth 100000 in
theorem impl_DeadBand.calls (k : Nat) (a0_0 : Int) (a0_1 : Int) (a0_2 : Int) (a0_3 : Int) (a0_4 : Bool) (r1 : Int) (r2 : Bool) (w : World) (h : impl_DeadBand.f k a0_0 a0_1 a0_2 a0_3 a0_4 = some (r1, r2)) :
  Calls Try.prog 116 #[.agg #[.int .i64 a0_0, .int .i64 a0_1, .int .i64 a0_2, .int .i64 a0_3, .bool a0_4]] w fun e w' => e = .returned (.tuple #[.int .i64 r1, .bool r2]) ∧ Below w.heap.size w w' := by
 have hu62 := Try.underlying62
 have HB := xA (Below.refl w.heap.size w)
 have H : ((impl_First_isScanned.f a0_0 a0_1 a0_2 a0_3 a0_4 0).bind fun t496 => (if t496 = true then ((impl_First_cycles.f k a0_0 a0_1 a0_2 a0_3 a0_4 0).bind fun t497 => ((slices_Concat_int_int.f k t497).bind fun t500 => ((impl_peak.f k t500).bind fun t503 => (some (t503, true))))) else (some (0, false)))) = some (r1, r2) := h
 clear h
 obtain ⟨t496, A2, H⟩ := xO H
 (try dsimp only at H)
 by_cases c3 : t496 = true
 rotate_left
 ·replace c3 := Bool.eq_false_iff.mpr c3
  subst c3
  rw [if_neg (show ¬ (false = true) by decide)] at H
  simp only [Option.some.injEq, Prod.mk.injEq] at H
  obtain ⟨rfl, rfl⟩ := H
  go_enter Try.func116, Try.ntmps116
  go_wp2_with (first | (refine xg 1 rfl ?_; refine xV 1 #[.int .i64 a0_0, .int .i64 a0_1, .int .i64 a0_2, .int .i64 a0_3, .bool a0_4] 62 ?_; intro gb495 hg w16 hbox hb; have BK495 := xA (hbox); have GW495 := xgw hg (below_size (xB HB.out)); have GE495 := GW495; replace HB := xA (below_step (xB HB.out) hb); clear hb hbox hg; obtain ⟨hcz17_0, hcz17_1, hcz17_2, hcz17_3, hcz17_4, hfz17_0, hfz17_1, hfz17_2, hfz17_3, hfz17_4⟩ := xZ5 BK495.out) | (refine xG (some 5) Try.func304 #[.agg #[.int .i64 a0_0, .int .i64 a0_1, .int .i64 a0_2, .int .i64 a0_3, .bool a0_4], .int .i64 0] ?_; (with_reducible refine (impl_First_isScanned.calls a0_0 a0_1 a0_2 a0_3 a0_4 0 false _ A2.out).mono ?_); rintro e w18 ⟨rfl, hb⟩; refine ⟨_, rfl, ?_⟩; replace BK495 := xkb BK495 hb; replace HB := xA (below_step (xB1 GE495.out HB.out) hb); (try clear hb)))
  go_ret2
  exact ⟨xr, xB1 GE495.out HB.out⟩

 subst c3
 rw [if_pos rfl] at H
 obtain ⟨t497, A4, H⟩ := xO H
 (try dsimp only at H)
 obtain ⟨t500, A5, H⟩ := xO H
 (try dsimp only at H)
 obtain ⟨t503, A6, H⟩ := xO H
 (try dsimp only at H)
 simp only [Option.some.injEq, Prod.mk.injEq] at H
 obtain ⟨rfl, rfl⟩ := H
 go_enter Try.func116, Try.ntmps116
 go_wp2_with (first | (refine xq rfl ?_; first | (refine xG (some 5) Try.func304 #[.agg #[.int .i64 a0_0, .int .i64 a0_1, .int .i64 a0_2, .int .i64 a0_3, .bool a0_4], .int .i64 0] ?_; (with_reducible refine (impl_First_isScanned.calls a0_0 a0_1 a0_2 a0_3 a0_4 0 true _ A2.out).mono ?_); rintro e w9 ⟨rfl, hb⟩; refine ⟨_, rfl, ?_⟩; replace BK495 := xkb BK495 hb; replace HB := xA (below_step (xB1 GE495.out HB.out) hb); (try clear hb); obtain ⟨hcz10_0, hcz10_1, hcz10_2, hcz10_3, hcz10_4, hfz10_0, hfz10_1, hfz10_2, hfz10_3, hfz10_4⟩ := xZ5 BK495.out) | (refine xG (some 8) Try.func305 #[.agg #[.int .i64 a0_0, .int .i64 a0_1, .int .i64 a0_2, .int .i64 a0_3, .bool a0_4], .int .i64 0] ?_; (with_reducible refine (impl_First_cycles.calls k a0_0 a0_1 a0_2 a0_3 a0_4 0 t497 _ A4.out).mono ?_); rintro e w11 ⟨v498, rfl, ho0, hb⟩; refine ⟨_, rfl, ?_⟩; have HO499 := xA (Kd.N_lower (Kd.N_mono (ok' := fun k_ => k_ ≠ gb495) ho0 (fun k_ hk_ => (Kd.freshB (xK BK495.out) k_ hk_))) (below_size (xB1 GE495.out HB.out))); replace BK495 := xkb BK495 hb; replace HB := xA (below_step (xB1 GE495.out HB.out) hb); (try clear hb); (try clear ho0); obtain ⟨Ao12, co12, eo12⟩ := Kd.N_slice HO499.out; subst eo12) | (refine xG (some 9) Try.func312 #[.slice Ao12 t497.length co12] ?_; (with_reducible refine (slices_Concat_int_int.calls k _ _ t497 t500 _ ?side1 ?side2 A5.out).mono ?_); (case side1 => exact xC ((Kd.N_reads' HO499.out).2.2)); (case side2 => exact (Kd.N_reads' HO499.out).2.1); rintro e w13 ⟨v501, rfl, ho0, hb⟩; refine ⟨_, rfl, ?_⟩; replace HO499 := xA (Kd.N_elder' (by (with_reducible repeat (first | apply Kd.N_alloc | apply Kd.N_drewN | apply Kd.N_drew)); exact HO499.out) (Kd.R_base ho0) hb); have HO502 := xA (Kd.R_lower ho0 (below_size (xB1 GE495.out HB.out))); replace BK495 := xkb BK495 hb; replace HB := xA (below_step (xB1 GE495.out HB.out) hb); (try clear hb); (try clear ho0); obtain ⟨Ao14, co14, eo14⟩ := Kd.R_slice HO502.out; subst eo14) | (refine xG (some 10) Try.func242 #[.slice Ao14 t500.length co14] ?_; (with_reducible refine (impl_peak.calls k _ _ t500 t503 _ ?side1 ?side2 A6.out).mono ?_); (case side1 => exact xC ((Kd.R_reads' HO502.out).2.2)); (case side2 => exact (Kd.R_reads' HO502.out).2.1); rintro e w15 ⟨rfl, hb⟩; refine ⟨_, rfl, ?_⟩; replace HO499 := xA (Kd.N_below (by (with_reducible repeat (first | apply Kd.N_alloc | apply Kd.N_drewN | apply Kd.N_drew)); exact HO499.out) hb); replace HO502 := xA (Kd.R_below (xR HO502.out) hb); replace BK495 := xkb BK495 hb; replace HB := xA (below_step (xB1 GE495.out HB.out) hb); (try clear hb))) | (refine xg 1 rfl ?_; refine xV 1 #[.int .i64 a0_0, .int .i64 a0_1, .int .i64 a0_2, .int .i64 a0_3, .bool a0_4] 62 ?_; intro gb495 hg w7 hbox hb; have BK495 := xA (hbox); have GW495 := xgw hg (below_size (xB HB.out)); have GE495 := GW495; replace HB := xA (below_step (xB HB.out) hb); clear hb hbox hg; obtain ⟨hcz8_0, hcz8_1, hcz8_2, hcz8_3, hcz8_4, hfz8_0, hfz8_1, hfz8_2, hfz8_3, hfz8_4⟩ := xZ5 BK495.out))
 go_ret2
 exact ⟨xr, xB1 GE495.out HB.out⟩
/-! ### spec_l1Abs: function 298 -/
def spec_l1Abs.f (a0 : Int) : Option (Int) := (spec_l1Most.f a0 (wrap64 (-a0))).bind fun t504 => (some t504)
set_option maxHeartbeats 200000000 in
set_option maxRecDepth 100000 in
theorem spec_l1Abs.calls (a0 : Int) (r : Int) (w : World) (h : spec_l1Abs.f a0 = some r) :
  Calls Try.prog 298 #[.int .i64 a0] w fun e w' => e = .returned (.int .i64 r) ∧ Drawn0 w w' := by
 have H : ((spec_l1Most.f a0 (wrap64 (-a0))).bind fun t504 => (some t504)) = some r := h
 clear h
 obtain ⟨t504, A2, H⟩ := xO H
 (try dsimp only at H)
 obtain rfl := Option.some.inj H
 go_enter Try.func298, Try.ntmps298
 go_wp2_with (first | (refine xG (some 6) Try.func271 #[.int .i64 a0, .int .i64 (wrap64 (-a0))] ?_; (with_reducible refine (spec_l1Most.calls a0 (wrap64 (-a0)) t504 _ A2.out).mono ?_); rintro e w' ⟨rfl, ⟨nd, rfl⟩⟩; refine ⟨_, rfl, ?_⟩))
 go_ret
 exact ⟨by first | rfl | (simp; done) | (simp [*]; done), by repeat (first | exact Drawn0.refl _ | apply Drawn0.step)⟩

/-! ### spec_wdPeak: function 243 -/
def spec_wdPeak.l0 : Nat → Int → List Int → Int → Int → Option (Int)
 | 0, _, _, _, _ => none
 | k + 1, x3, x6, x7, x8 => if x8 < x7 then (if 0 ≤ x8 then (if x8 < (x6.length : Int) then ((spec_l1Abs.f (rd x6 x8)).bind fun t506 => ((spec_l1Most.f x3 t506).bind fun t507 => (spec_wdPeak.l0 k t507 x6 x7 (wrap64 (x8 + 1))))) else (none)) else (none)) else (some x3)
def spec_wdPeak.f (k : Nat) (l0 : List Int) : Option (Int) := spec_wdPeak.l0 k 0 l0 (l0.length : Int) 0
theorem spec_wdPeak.mono_l : ∀ k, (∀ y0 y1 y2 y3, LeO (spec_wdPeak.l0 k y0 y1 y2 y3) (spec_wdPeak.l0 (k + 1) y0 y1 y2 y3))
 | 0 => fun _ _ _ _ r h => by simp [spec_wdPeak.l0] at h
 | k + 1 => by
  have ih0 := spec_wdPeak.mono_l k
  intros
  unfold spec_wdPeak.l0
  exact xM
theorem spec_wdPeak.mono : ∀ a0 k, LeO (spec_wdPeak.f k a0) (spec_wdPeak.f (k + 1) a0) := by
 intro a0 k
 have ih0 := spec_wdPeak.mono_l k
 unfold spec_wdPeak.f
 exact xM
set_option maxHeartbeats 200000000 in
set_option maxRecDepth 100000 in
theorem spec_wdPeak.calls (k : Nat) (A0 : Option Addr) (c0 : Nat) (l0 : List Int) (r : Int) (w : World) (hr0 : Kd.C (Kd.int .i64) w A0 l0.length l0) (hc0 : l0.length ≤ c0) (h : spec_wdPeak.f k l0 = some r) :
  Calls Try.prog 243 #[.slice A0 l0.length c0] w fun e w' => e = .returned (.int .i64 r) ∧ Drawn0 w w' := by
 have HR0 := xA hr0
 have HC0 := xA hc0
 clear hr0 hc0
 have H : (spec_wdPeak.l0 k 0 l0 (l0.length : Int) 0) = some r := h
 clear h
 have H' := xA H
 clear H
 go_enter Try.func243, Try.ntmps243
 go_wp2
 go_loopg [3, 8] k (fun kq v3 v8 w' => ∃ (x3_1 : Int) (x8_1 : Int), v3 = .int .i64 x3_1 ∧ v8 = .int .i64 x8_1 ∧ Aside0 (spec_wdPeak.l0 kq x3_1 l0 (l0.length : Int) x8_1 = some r) ∧ Aside0 (kq ≤ k) ∧ Drawn0 w w')
 case atStart => exact ⟨(0), (0), xs, xs, H', ⟨Nat.le_refl _⟩, by repeat (first | exact Drawn0.refl _ | apply Drawn0.step)⟩
 case round =>
  clear H'
  obtain ⟨x3_1, x8_1, rfl, rfl, HA, HK1, ⟨m1, rfl⟩⟩ := hrel
  cases gk with
  | zero => exact absurd HA.out (by simp [spec_wdPeak.l0])
  | succ k1 =>
   have H := HA.out
   clear HA
   simp only [spec_wdPeak.l0] at H
   by_cases c2 : x8_1 < (l0.length : Int)
   rotate_left
   ·rw [if_neg c2] at H
    have c2b0 : decide (x8_1 < (l0.length : Int)) = false := decide_eq_false c2
    clear c2
    obtain rfl := Option.some.inj H
    go_wp2
    go_ret
    exact ⟨by first | rfl | (simp; done) | (simp [*]; done), by repeat (first | exact Drawn0.refl _ | apply Drawn0.step)⟩

   rw [if_pos c2] at H
   have c2b0 : decide (x8_1 < (l0.length : Int)) = true := decide_eq_true c2
   clear c2
   by_cases c3 : 0 ≤ x8_1
   rotate_left
   ·rw [if_neg c3] at H
    exact absurd H (by simp)
   rw [if_pos c3] at H
   have c3b0 : decide (0 ≤ x8_1) = true := decide_eq_true c3
   clear c3
   by_cases c4 : x8_1 < (l0.length : Int)
   rotate_left
   ·rw [if_neg c4] at H
    exact absurd H (by simp)
   rw [if_pos c4] at H
   have c4b0 : decide (x8_1 < (l0.length : Int)) = true := decide_eq_true c4
   clear c4
   obtain ⟨t506, A5, H⟩ := xO H
   (try dsimp only at H)
   obtain ⟨t507, A6, H⟩ := xO H
   (try dsimp only at H)
   have H' := xA H
   clear H
   have p505 : 0 ≤ (x8_1 : Int) := of_decide_eq_true (by first | (with_reducible assumption) | assumption)
   have q505 : x8_1 < (l0.length : Int) := of_decide_eq_true (by first | (with_reducible assumption) | assumption)
   obtain ⟨ad505, e505, hx505_0⟩ := Kd.at_int HR0.out x8_1 p505 q505
   cases e505
   replace p505 := eq_true p505
   replace q505 := eq_true q505
   go_wp2_with (first | (refine xq rfl ?_; first | (refine xG (some 14) Try.func298 #[.int .i64 (rd l0 x8_1)] ?_; (with_reducible refine (spec_l1Abs.calls (rd l0 x8_1) t506 _ A5.out).mono ?_); rintro e w' ⟨rfl, ⟨nd, rfl⟩⟩; refine ⟨_, rfl, ?_⟩) | (refine xG (some 15) Try.func271 #[.int .i64 x3_1, .int .i64 t506] ?_; (with_reducible refine (spec_l1Most.calls x3_1 t506 t507 _ A6.out).mono ?_); rintro e w' ⟨rfl, ⟨nd, rfl⟩⟩; refine ⟨_, rfl, ?_⟩)))
   go_roundg k1
   case measure => have := HK1.out; omega
   case rel => exact ⟨(t507), (wrap64 (x8_1 + 1)), xs, xs, H', ⟨by have := HK1.out; omega⟩, by repeat (first | exact Drawn0.refl _ | apply Drawn0.step)⟩
/-! ### spec_DeadBand: function 117 -/
def spec_DeadBand.l0 : Nat → Int → List (List Int) → Int → Int → Option (Int × Bool)
 | 0, _, _, _, _ => none
 | k + 1, x4, x11, x12, x13 => if x13 < x12 then (if 0 ≤ x13 then (if x13 < (x11.length : Int) then ((spec_wdPeak.f k (rd_L5 x11 x13)).bind fun t514 => ((spec_l1Most.f x4 t514).bind fun t515 => (spec_DeadBand.l0 k t515 x11 x12 (wrap64 (x13 + 1))))) else (none)) else (none)) else (some (x4, true))
def spec_DeadBand.f (k : Nat) (a0_0 : Int) (a0_1 : Int) (a0_2 : Int) (a0_3 : Int) (a0_4 : Bool) : Option (Int × Bool) := (spec_foScan.f a0_0 a0_1 a0_2 a0_3 a0_4 0).bind fun t509 => (if t509 = true then ((spec_foCycles.f k a0_0 a0_1 a0_2 a0_3 a0_4 0).bind fun t510 => (spec_DeadBand.l0 k 0 t510 (t510.length : Int) 0)) else (some (0, false)))
theorem spec_DeadBand.mono_l : ∀ k, (∀ y0 y1 y2 y3, LeO (spec_DeadBand.l0 k y0 y1 y2 y3) (spec_DeadBand.l0 (k + 1) y0 y1 y2 y3))
 | 0 => fun _ _ _ _ r h => by simp [spec_DeadBand.l0] at h
 | k + 1 => by
  have ih0 := spec_DeadBand.mono_l k
  have m0 := @spec_foCycles.mono
  have m1 := @spec_wdPeak.mono
  intros
  unfold spec_DeadBand.l0
  exact xM
theorem spec_DeadBand.mono : ∀ a0 a1 a2 a3 a4 k, LeO (spec_DeadBand.f k a0 a1 a2 a3 a4) (spec_DeadBand.f (k + 1) a0 a1 a2 a3 a4) := by
 intro a0 a1 a2 a3 a4 k
 have ih0 := spec_DeadBand.mono_l k
 have m0 := @spec_foCycles.mono
 have m1 := @spec_wdPeak.mono
 unfold spec_DeadBand.f
 exact xM
set_option maxHeartbeats 200000000 in
set_option maxRecDepth 100000 in
theorem spec_DeadBand.calls (k : Nat) (a0_0 : Int) (a0_1 : Int) (a0_2 : Int) (a0_3 : Int) (a0_4 : Bool) (r1 : Int) (r2 : Bool) (w : World) (h : spec_DeadBand.f k a0_0 a0_1 a0_2 a0_3 a0_4 = some (r1, r2)) :
  Calls Try.prog 117 #[.agg #[.int .i64 a0_0, .int .i64 a0_1, .int .i64 a0_2, .int .i64 a0_3, .bool a0_4]] w fun e w' => e = .returned (.tuple #[.int .i64 r1, .bool r2]) ∧ Below w.heap.size w w' := by
 have hu62 := Try.underlying62
 have HB := xA (Below.refl w.heap.size w)
 have H : ((spec_foScan.f a0_0 a0_1 a0_2 a0_3 a0_4 0).bind fun t509 => (if t509 = true then ((spec_foCycles.f k a0_0 a0_1 a0_2 a0_3 a0_4 0).bind fun t510 => (spec_DeadBand.l0 k 0 t510 (t510.length : Int) 0)) else (some (0, false)))) = some (r1, r2) := h
 clear h
 obtain ⟨t509, A2, H⟩ := xO H
 (try dsimp only at H)
 by_cases c3 : t509 = true
 rotate_left
 ·replace c3 := Bool.eq_false_iff.mpr c3
  subst c3
  rw [if_neg (show ¬ (false = true) by decide)] at H
  simp only [Option.some.injEq, Prod.mk.injEq] at H
  obtain ⟨rfl, rfl⟩ := H
  go_enter Try.func117, Try.ntmps117
  go_wp2_with (first | (refine xg 1 rfl ?_; refine xV 1 #[.int .i64 a0_0, .int .i64 a0_1, .int .i64 a0_2, .int .i64 a0_3, .bool a0_4] 62 ?_; intro gb508 hg w16 hbox hb; have BK508 := xA (hbox); have GW508 := xgw hg (below_size (xB HB.out)); have GE508 := GW508; replace HB := xA (below_step (xB HB.out) hb); clear hb hbox hg; obtain ⟨hcz17_0, hcz17_1, hcz17_2, hcz17_3, hcz17_4, hfz17_0, hfz17_1, hfz17_2, hfz17_3, hfz17_4⟩ := xZ5 BK508.out) | (refine xG (some 8) Try.func306 #[.agg #[.int .i64 a0_0, .int .i64 a0_1, .int .i64 a0_2, .int .i64 a0_3, .bool a0_4], .int .i64 0] ?_; (with_reducible refine (spec_foScan.calls a0_0 a0_1 a0_2 a0_3 a0_4 0 false _ A2.out).mono ?_); rintro e w18 ⟨rfl, hb⟩; refine ⟨_, rfl, ?_⟩; replace BK508 := xkb BK508 hb; replace HB := xA (below_step (xB1 GE508.out HB.out) hb); (try clear hb)))
  go_ret2
  exact ⟨xr, xB1 GE508.out HB.out⟩

 subst c3
 rw [if_pos rfl] at H
 obtain ⟨t510, A4, H⟩ := xO H
 (try dsimp only at H)
 have H' := xA H
 clear H
 go_enter Try.func117, Try.ntmps117
 go_wp2_with (first | (refine xq rfl ?_; first | (refine xG (some 8) Try.func306 #[.agg #[.int .i64 a0_0, .int .i64 a0_1, .int .i64 a0_2, .int .i64 a0_3, .bool a0_4], .int .i64 0] ?_; (with_reducible refine (spec_foScan.calls a0_0 a0_1 a0_2 a0_3 a0_4 0 true _ A2.out).mono ?_); rintro e w7 ⟨rfl, hb⟩; refine ⟨_, rfl, ?_⟩; replace BK508 := xkb BK508 hb; replace HB := xA (below_step (xB1 GE508.out HB.out) hb); (try clear hb); obtain ⟨hcz8_0, hcz8_1, hcz8_2, hcz8_3, hcz8_4, hfz8_0, hfz8_1, hfz8_2, hfz8_3, hfz8_4⟩ := xZ5 BK508.out) | (refine xG (some 11) Try.func307 #[.agg #[.int .i64 a0_0, .int .i64 a0_1, .int .i64 a0_2, .int .i64 a0_3, .bool a0_4], .int .i64 0] ?_; (with_reducible refine (spec_foCycles.calls k a0_0 a0_1 a0_2 a0_3 a0_4 0 t510 _ A4.out).mono ?_); rintro e w9 ⟨v511, rfl, ho0, hb⟩; refine ⟨_, rfl, ?_⟩; have HO512 := xA (Kd.N_lower (Kd.N_mono (ok' := fun k_ => k_ ≠ gb508) ho0 (fun k_ hk_ => (Kd.freshB (xK BK508.out) k_ hk_))) (below_size (xB1 GE508.out HB.out))); replace BK508 := xkb BK508 hb; replace HB := xA (below_step (xB1 GE508.out HB.out) hb); (try clear hb); (try clear ho0); obtain ⟨Ao10, co10, eo10⟩ := Kd.N_slice HO512.out; subst eo10)) | (refine xg 1 rfl ?_; refine xV 1 #[.int .i64 a0_0, .int .i64 a0_1, .int .i64 a0_2, .int .i64 a0_3, .bool a0_4] 62 ?_; intro gb508 hg w5 hbox hb; have BK508 := xA (hbox); have GW508 := xgw hg (below_size (xB HB.out)); have GE508 := GW508; replace HB := xA (below_step (xB HB.out) hb); clear hb hbox hg; obtain ⟨hcz6_0, hcz6_1, hcz6_2, hcz6_3, hcz6_4, hfz6_0, hfz6_1, hfz6_2, hfz6_3, hfz6_4⟩ := xZ5 BK508.out))
 go_loopg [4, 13] k (fun kq v4 v13 w' => ∃ (x4_1 : Int) (x13_1 : Int), v4 = .int .i64 x4_1 ∧ v13 = .int .i64 x13_1 ∧ Aside0 (spec_DeadBand.l0 kq x4_1 t510 (t510.length : Int) x13_1 = some (r1, r2)) ∧ Aside0 (kq ≤ k) ∧ Aside0 (Kd.N (Kd.slice 3 (Kd.int .i64)) 24 w' w.heap.size (fun k_ => k_ ≠ gb508) (.slice Ao10 t510.length co10) t510) ∧ Aside0 (w'.heap[gb508]? = some (.cells #[.int .i64 a0_0, .int .i64 a0_1, .int .i64 a0_2, .int .i64 a0_3, .bool a0_4] 62 (0, 0))) ∧ Aside0 (Below w.heap.size w w'))
 case atStart => exact ⟨(0), (0), xs, xs, H', ⟨Nat.le_refl _⟩, ⟨by (with_reducible repeat (first | apply Kd.N_alloc | apply Kd.N_drewN | apply Kd.N_drew)); exact HO512.out⟩, ⟨xK BK508.out⟩, ⟨xB1 GE508.out HB.out⟩⟩
 case round =>
  clear H'
  try clear c3
  try clear hcz6_0
  try clear hcz6_1
  try clear hcz6_2
  try clear hcz6_3
  try clear hcz6_4
  try clear hcz8_0
  try clear hcz8_1
  try clear hcz8_2
  try clear hcz8_3
  try clear hcz8_4
  try clear hfz6_0
  try clear hfz6_1
  try clear hfz6_2
  try clear hfz6_3
  try clear hfz6_4
  try clear hfz8_0
  try clear hfz8_1
  try clear hfz8_2
  try clear hfz8_3
  try clear hfz8_4
  obtain ⟨x4_1, x13_1, rfl, rfl, HA, HK1, HO_11, BK508, HB⟩ := hrel
  cases gk with
  | zero => exact absurd HA.out (by simp [spec_DeadBand.l0])
  | succ k1 =>
   have H := HA.out
   clear HA
   simp only [spec_DeadBand.l0] at H
   by_cases c11 : x13_1 < (t510.length : Int)
   rotate_left
   ·rw [if_neg c11] at H
    have c11b0 : decide (x13_1 < (t510.length : Int)) = false := decide_eq_false c11
    clear c11
    simp only [Option.some.injEq, Prod.mk.injEq] at H
    obtain ⟨rfl, rfl⟩ := H
    go_wp2
    go_ret2
    exact ⟨xr, xB1 GE508.out HB.out⟩
   rw [if_pos c11] at H
   have c11b0 : decide (x13_1 < (t510.length : Int)) = true := decide_eq_true c11
   clear c11
   by_cases c12 : 0 ≤ x13_1
   rotate_left
   ·rw [if_neg c12] at H
    exact absurd H (by simp)
   rw [if_pos c12] at H
   have c12b0 : decide (0 ≤ x13_1) = true := decide_eq_true c12
   clear c12
   by_cases c13 : x13_1 < (t510.length : Int)
   rotate_left
   ·rw [if_neg c13] at H
    exact absurd H (by simp)
   rw [if_pos c13] at H
   have c13b0 : decide (x13_1 < (t510.length : Int)) = true := decide_eq_true c13
   clear c13
   obtain ⟨t514, A14, H⟩ := xO H
   (try dsimp only at H)
   obtain ⟨t515, A15, H⟩ := xO H
   (try dsimp only at H)
   have H' := xA H
   clear H
   have p513 : 0 ≤ (x13_1 : Int) := of_decide_eq_true (by first | (with_reducible assumption) | assumption)
   have q513 : x13_1 < (t510.length : Int) := of_decide_eq_true (by first | (with_reducible assumption) | assumption)
   obtain ⟨ad513, A513_0, c513_0, e513, hx513_0, hl513_0, hi513_0⟩ := at_L5 (Kd.N_reads' HO_11.out).2.2 x13_1 p513 q513
   cases e513
   obtain ⟨ce513, hce513, hMe513, hcc513⟩ := Kd.N_get HO_11.out [] x13_1 p513 (by first | exact q513 | exact of_decide_eq_true (by first | (with_reducible assumption) | assumption) | (have e_ := (Kd.N_reads' HO_11.out).1; omega))
   obtain ⟨ua513_0, uc513_0, rfl, ul513_0, ge513_0⟩ := Kd.FK_slice_open hMe513
   have hv513_0 := hcc513 0 _ rfl
   rw [Nat.add_zero, show ((Kd.slice 3 (Kd.int .i64))).sz = 1 from rfl, Nat.mul_one] at hv513_0
   replace hv513_0 := Option.some.inj (hv513_0.symm.trans hx513_0)
   injection hv513_0 with hva_ hvn_ hvc_
   rw [hva_] at ge513_0
   rw [hvc_] at ul513_0
   have HL513_0 := xA (show Kd.V (Kd.int .i64) 3 _ w.heap.size _ _ (rd_L5 t510 x13_1) from Kd.V_mk ul513_0 ge513_0)
   clear hva_ hvn_ hvc_ ge513_0 ul513_0
   clear hcc513 hce513
   have HR513_0 := xA hi513_0
   have HC513_0 := xA hl513_0
   clear hi513_0 hl513_0
   replace p513 := eq_true p513
   replace q513 := eq_true q513
   go_wp2_with (first | (refine xq rfl ?_; first | (refine xG (some 19) Try.func243 #[.slice A513_0 (rd_L5 t510 x13_1).length c513_0] ?_; (with_reducible refine (spec_wdPeak.calls k1 _ _ (rd_L5 t510 x13_1) t514 _ ?side1 ?side2 A14.out).mono ?_); (case side1 => repeat (first | exact (by repeat (first | (with_reducible exact HR513_0.out) | (with_reducible refine Kd.C_alloc ?_ _) | (with_reducible refine Kd.C_drewN ?_ _) | (with_reducible refine Kd.C_drew ?_) | exact HR513_0.out)) | (with_reducible refine Kd.C_alloc ?_ _) | (with_reducible refine Kd.C_drewN ?_ _) | (with_reducible refine Kd.C_drew ?_))); (case side2 => exact HC513_0.out); rintro e w' ⟨rfl, ⟨nd, rfl⟩⟩; refine ⟨_, rfl, ?_⟩) | (refine xG (some 20) Try.func271 #[.int .i64 x4_1, .int .i64 t514] ?_; (with_reducible refine (spec_l1Most.calls x4_1 t514 t515 _ A15.out).mono ?_); rintro e w' ⟨rfl, ⟨nd, rfl⟩⟩; refine ⟨_, rfl, ?_⟩)))
   go_roundg k1
   case measure => have := HK1.out; omega
   case rel => exact ⟨(t515), (wrap64 (x13_1 + 1)), xs, xs, H', ⟨by have := HK1.out; omega⟩, ⟨by (with_reducible repeat (first | apply Kd.N_alloc | apply Kd.N_drewN | apply Kd.N_drew)); exact HO_11.out⟩, ⟨xK BK508.out⟩, ⟨xB1 GE508.out HB.out⟩⟩
/-! ### impl_gcd: function 226 -/
def impl_gcd.l0 : Nat → Int → Int → Option (Int)
 | 0, _, _ => none
 | k + 1, x0, x1 => if x1 = 0 then (some x0) else (impl_gcd.l0 k x1 (Int.tmod x0 x1))
def impl_gcd.f (k : Nat) (a0 : Int) (a1 : Int) : Option (Int) := (impl_size.f a0).bind fun t516 => ((impl_size.f a1).bind fun t517 => (impl_gcd.l0 k t516 t517))
theorem impl_gcd.mono_l : ∀ k, (∀ y0 y1, LeO (impl_gcd.l0 k y0 y1) (impl_gcd.l0 (k + 1) y0 y1))
 | 0 => fun _ _ r h => by simp [impl_gcd.l0] at h
 | k + 1 => by
  have ih0 := impl_gcd.mono_l k
  intros
  unfold impl_gcd.l0
  exact xM
theorem impl_gcd.mono : ∀ a0 a1 k, LeO (impl_gcd.f k a0 a1) (impl_gcd.f (k + 1) a0 a1) := by
 intro a0 a1 k
 have ih0 := impl_gcd.mono_l k
 unfold impl_gcd.f
 exact xM
set_option maxHeartbeats 200000000 in
set_option maxRecDepth 100000 in
theorem impl_gcd.calls (k : Nat) (a0 : Int) (a1 : Int) (r : Int) (w : World) (h : impl_gcd.f k a0 a1 = some r) :
  Calls Try.prog 226 #[.int .i64 a0, .int .i64 a1] w fun e w' => e = .returned (.int .i64 r) ∧ Below w.heap.size w w' := by
 have HB := xA (Below.refl w.heap.size w)
 have H : ((impl_size.f a0).bind fun t516 => ((impl_size.f a1).bind fun t517 => (impl_gcd.l0 k t516 t517))) = some r := h
 clear h
 obtain ⟨t516, A3, H⟩ := xO H
 (try dsimp only at H)
 obtain ⟨t517, A4, H⟩ := xO H
 (try dsimp only at H)
 have H' := xA H
 clear H
 go_enter Try.func226, Try.ntmps226
 go_wp2_with (first | (go_at_call 272; (with_reducible refine (impl_size.calls a0 t516 _ A3.out).mono ?_); rintro e w5 ⟨rfl, hb⟩; replace HB := xA (below_step (xB HB.out) hb); (try clear hb)) | (go_at_call 272; (with_reducible refine (impl_size.calls a1 t517 _ A4.out).mono ?_); rintro e w6 ⟨rfl, hb⟩; replace HB := xA (below_step (xB HB.out) hb); (try clear hb)))
 repeat (go_quiet (first | (go_at_call 272; (with_reducible refine (impl_size.calls a0 t516 _ A3.out).mono ?_); rintro e w5 ⟨rfl, hb⟩; replace HB := xA (below_step (xB HB.out) hb); (try clear hb)) | (go_at_call 272; (with_reducible refine (impl_size.calls a1 t517 _ A4.out).mono ?_); rintro e w6 ⟨rfl, hb⟩; replace HB := xA (below_step (xB HB.out) hb); (try clear hb))); try go_wp2_with (first | (go_at_call 272; (with_reducible refine (impl_size.calls a0 t516 _ A3.out).mono ?_); rintro e w5 ⟨rfl, hb⟩; replace HB := xA (below_step (xB HB.out) hb); (try clear hb)) | (go_at_call 272; (with_reducible refine (impl_size.calls a1 t517 _ A4.out).mono ?_); rintro e w6 ⟨rfl, hb⟩; replace HB := xA (below_step (xB HB.out) hb); (try clear hb))))
 go_loopg [0, 1] k (fun kq v0 v1 w' => ∃ (x0_1 : Int) (x1_1 : Int), v0 = .int .i64 x0_1 ∧ v1 = .int .i64 x1_1 ∧ Aside0 (impl_gcd.l0 kq x0_1 x1_1 = some r) ∧ Aside0 (kq ≤ k) ∧ Aside0 (Below w.heap.size w w'))
 case atStart => exact ⟨(t516), (t517), xs, xs, H', ⟨Nat.le_refl _⟩, ⟨xB HB.out⟩⟩
 case round =>
  clear H'
  obtain ⟨x0_1, x1_1, rfl, rfl, HA, HK1, HB⟩ := hrel
  cases gk with
  | zero => exact absurd HA.out (by simp [impl_gcd.l0])
  | succ k1 =>
   have H := HA.out
   clear HA
   simp only [impl_gcd.l0] at H
   by_cases c7 : x1_1 = 0
   ·rw [if_pos c7] at H
    have c7b0 : (x1_1 == 0) = true := beq_iff_eq.mpr c7
    have c7b1 : (x1_1 != 0) = false := bne_eq_false_iff_eq.mpr c7
    clear c7
    obtain rfl := Option.some.inj H
    go_wp2
    repeat (go_quiet (fail); try go_wp2)
    go_ret
    exact ⟨xr, xB HB.out⟩
   rw [if_neg c7] at H
   have c7b0 : (x1_1 == 0) = false := beq_eq_false_iff_ne.mpr c7
   have c7b1 : (x1_1 != 0) = true := bne_iff_ne.mpr c7
   have H' := xA H
   clear H
   go_wp2
   repeat (go_quiet (fail); try go_wp2)
   go_roundg k1
   case measure => have := HK1.out; omega
   case rel => exact ⟨(x1_1), (Int.tmod x0_1 x1_1), xs, xs, H', ⟨by have := HK1.out; omega⟩, ⟨xB HB.out⟩⟩

/-! ### impl_lowest: function 296 -/
def impl_lowest.f (k : Nat) (a0 : Int) (a1 : Int) : Option (Int × Int) := (impl_gcd.f k a0 a1).bind fun t518 => (if a1 < 0 then (if (wrap64 (-t518)) = 0 then (none) else (some (wrap64 (Int.tdiv a0 (wrap64 (-t518))), wrap64 (Int.tdiv a1 (wrap64 (-t518)))))) else (if t518 = 0 then (none) else (some (wrap64 (Int.tdiv a0 t518), wrap64 (Int.tdiv a1 t518)))))
theorem impl_lowest.mono : ∀ a0 a1 k, LeO (impl_lowest.f k a0 a1) (impl_lowest.f (k + 1) a0 a1) := by
 intro a0 a1 k
 have m0 := @impl_gcd.mono
 unfold impl_lowest.f
 exact xM
set_option maxHeartbeats 200000000 in
set_option maxRecDepth 100000 in
theorem impl_lowest.calls (k : Nat) (a0 : Int) (a1 : Int) (r1 : Int) (r2 : Int) (w : World) (h : impl_lowest.f k a0 a1 = some (r1, r2)) :
  Calls Try.prog 296 #[.int .i64 a0, .int .i64 a1] w fun e w' => e = .returned (.tuple #[.int .i64 r1, .int .i64 r2]) ∧ Below w.heap.size w w' := by
 have HB := xA (Below.refl w.heap.size w)
 have H : ((impl_gcd.f k a0 a1).bind fun t518 => (if a1 < 0 then (if (wrap64 (-t518)) = 0 then (none) else (some (wrap64 (Int.tdiv a0 (wrap64 (-t518))), wrap64 (Int.tdiv a1 (wrap64 (-t518)))))) else (if t518 = 0 then (none) else (some (wrap64 (Int.tdiv a0 t518), wrap64 (Int.tdiv a1 t518)))))) = some (r1, r2) := h
 clear h
 obtain ⟨t518, A3, H⟩ := xO H
 (try dsimp only at H)
 by_cases c4 : a1 < 0
 ·rw [if_pos c4] at H
  have c4b0 : decide (a1 < 0) = true := decide_eq_true c4
  clear c4
  by_cases c5 : (wrap64 (-t518)) = 0
  ·rw [if_pos c5] at H
   exact absurd H (by simp)
  rw [if_neg c5] at H
  have c5b0 : ((wrap64 (-t518)) == 0) = false := beq_eq_false_iff_ne.mpr c5
  have c5b1 : ((wrap64 (-t518)) != 0) = true := bne_iff_ne.mpr c5
  simp only [Option.some.injEq, Prod.mk.injEq] at H
  obtain ⟨rfl, rfl⟩ := H
  go_enter Try.func296, Try.ntmps296
  go_wp2_with (first | (go_at_call 226; (with_reducible refine (impl_gcd.calls k a0 a1 t518 _ A3.out).mono ?_); rintro e w6 ⟨rfl, hb⟩; replace HB := xA (below_step (xB HB.out) hb); (try clear hb)))
  repeat (go_quiet (first | (go_at_call 226; (with_reducible refine (impl_gcd.calls k a0 a1 t518 _ A3.out).mono ?_); rintro e w6 ⟨rfl, hb⟩; replace HB := xA (below_step (xB HB.out) hb); (try clear hb))); try go_wp2_with (first | (go_at_call 226; (with_reducible refine (impl_gcd.calls k a0 a1 t518 _ A3.out).mono ?_); rintro e w6 ⟨rfl, hb⟩; replace HB := xA (below_step (xB HB.out) hb); (try clear hb))))
  go_ret2
  exact ⟨xr, xB HB.out⟩
 rw [if_neg c4] at H
 have c4b0 : decide (a1 < 0) = false := decide_eq_false c4
 clear c4
 by_cases c7 : t518 = 0
 ·rw [if_pos c7] at H
  exact absurd H (by simp)
 rw [if_neg c7] at H
 have c7b0 : (t518 == 0) = false := beq_eq_false_iff_ne.mpr c7
 have c7b1 : (t518 != 0) = true := bne_iff_ne.mpr c7
 simp only [Option.some.injEq, Prod.mk.injEq] at H
 obtain ⟨rfl, rfl⟩ := H
 go_enter Try.func296, Try.ntmps296
 go_wp2_with (first | (go_at_call 226; (with_reducible refine (impl_gcd.calls k a0 a1 t518 _ A3.out).mono ?_); rintro e w8 ⟨rfl, hb⟩; replace HB := xA (below_step (xB HB.out) hb); (try clear hb)))
 repeat (go_quiet (first | (go_at_call 226; (with_reducible refine (impl_gcd.calls k a0 a1 t518 _ A3.out).mono ?_); rintro e w8 ⟨rfl, hb⟩; replace HB := xA (below_step (xB HB.out) hb); (try clear hb))); try go_wp2_with (first | (go_at_call 226; (with_reducible refine (impl_gcd.calls k a0 a1 t518 _ A3.out).mono ?_); rintro e w8 ⟨rfl, hb⟩; replace HB := xA (below_step (xB HB.out) hb); (try clear hb))))
 go_ret2
 exact ⟨xr, xB HB.out⟩

/-! ### impl_GainOfFirst: function 118 -/
def impl_GainOfFirst.f (k : Nat) (a0_0 : Int) (a0_1 : Int) (a0_2 : Int) (a0_3 : Int) (a0_4 : Bool) : Option (Int × Int × Bool) := (impl_isFirst.f a0_0 a0_1 a0_2 a0_3 a0_4).bind fun t520 => (if t520 = true then (if a0_0 = (wrap64 (2 ^ (mn (mx a0_1 0) 10).toNat)) then (some (0, 0, false)) else ((impl_lowest.f k (wrap64 (2 ^ (mn (mx a0_1 0) 10).toNat)) (wrap64 ((wrap64 (2 ^ (mn (mx a0_1 0) 10).toNat)) - a0_0))).bind fun bt521 => (some (bt521.1, bt521.2, true)))) else (some (0, 0, false)))
theorem impl_GainOfFirst.mono : ∀ a0 a1 a2 a3 a4 k, LeO (impl_GainOfFirst.f k a0 a1 a2 a3 a4) (impl_GainOfFirst.f (k + 1) a0 a1 a2 a3 a4) := by
 intro a0 a1 a2 a3 a4 k
 have m0 := @impl_lowest.mono
 unfold impl_GainOfFirst.f
 exact xM
set_option maxHeartbeats 200000000 in
set_option maxRecDepth 100000 in
theorem impl_GainOfFirst.calls (k : Nat) (a0_0 : Int) (a0_1 : Int) (a0_2 : Int) (a0_3 : Int) (a0_4 : Bool) (r1 : Int) (r2 : Int) (r3 : Bool) (w : World) (h : impl_GainOfFirst.f k a0_0 a0_1 a0_2 a0_3 a0_4 = some (r1, r2, r3)) :
  Calls Try.prog 118 #[.agg #[.int .i64 a0_0, .int .i64 a0_1, .int .i64 a0_2, .int .i64 a0_3, .bool a0_4]] w fun e w' => e = .returned (.tuple #[.int .i64 r1, .int .i64 r2, .bool r3]) ∧ Below w.heap.size w w' := by
 have hu62 := Try.underlying62
 have HB := xA (Below.refl w.heap.size w)
 have H : ((impl_isFirst.f a0_0 a0_1 a0_2 a0_3 a0_4).bind fun t520 => (if t520 = true then (if a0_0 = (wrap64 (2 ^ (mn (mx a0_1 0) 10).toNat)) then (some (0, 0, false)) else ((impl_lowest.f k (wrap64 (2 ^ (mn (mx a0_1 0) 10).toNat)) (wrap64 ((wrap64 (2 ^ (mn (mx a0_1 0) 10).toNat)) - a0_0))).bind fun bt521 => (some (bt521.1, bt521.2, true)))) else (some (0, 0, false)))) = some (r1, r2, r3) := h
 clear h
 obtain ⟨ji2, hji2⟩ : ∃ j_ : Int, (mx a0_1 0) = j_ := ⟨_, rfl⟩
 (first | rw [hji2] at H | simp only [hji2] at H)
 (try (have hji2l : 0 ≤ ji2 := by (rw [← hji2]; unfold mx; (repeat' split) <;> omega)))
 (try (have hji2m : 0 ≤ ji2 := by omega))
 have hji2_ : (if a0_1 < 0 then 0 else a0_1) = ji2 := hji2
 obtain ⟨ji3, hji3⟩ : ∃ j_ : Int, (mn (ji2) 10) = j_ := ⟨_, rfl⟩
 (first | rw [hji3] at H | simp only [hji3] at H)
 have hji3_ : (if 10 < (ji2) then 10 else (ji2)) = ji3 := hji3
 obtain ⟨t520, A4, H⟩ := xO H
 (try dsimp only at H)
 by_cases c5 : t520 = true
 rotate_left
 ·replace c5 := Bool.eq_false_iff.mpr c5
  subst c5
  rw [if_neg (show ¬ (false = true) by decide)] at H
  simp only [Option.some.injEq, Prod.mk.injEq] at H
  obtain ⟨rfl, rfl, rfl⟩ := H
  go_enter Try.func118, Try.ntmps118
  go_wp2_with (first | (refine xg 1 rfl ?_; refine xV 1 #[.int .i64 a0_0, .int .i64 a0_1, .int .i64 a0_2, .int .i64 a0_3, .bool a0_4] 62 ?_; intro gb519 hg w17 hbox hb; have BK519 := xA (hbox); have GW519 := xgw hg (below_size (xB HB.out)); have GE519 := GW519; replace HB := xA (below_step (xB HB.out) hb); clear hb hbox hg; replace hz519 := blk_cell BK519.out; replace hy519 := blk_frozen BK519.out) | (refine xG (some 14) Try.func294 #[.agg #[.int .i64 a0_0, .int .i64 a0_1, .int .i64 a0_2, .int .i64 a0_3, .bool a0_4]] ?_; (with_reducible refine (impl_isFirst.calls a0_0 a0_1 a0_2 a0_3 a0_4 false _ A4.out).mono ?_); rintro e w19 ⟨rfl, hb⟩; refine ⟨_, rfl, ?_⟩; replace BK519 := xkb BK519 hb; replace HB := xA (below_step (xB1 GE519.out HB.out) hb); (try clear hb)))
  go_ret3
  exact ⟨by first | rfl | (simp [errW_none, errW_some] <;> rfl) | (simp only [← hji2, ← hji3]; first | rfl | (simp [errW_none, errW_some] <;> rfl)) | (simp [*, errW_none, errW_some] <;> rfl), xB1 GE519.out HB.out⟩

 subst c5
 rw [if_pos rfl] at H
 by_cases c6 : a0_0 = (wrap64 (2 ^ (ji3).toNat))
 ·rw [if_pos c6] at H
  have c6b0 : (a0_0 == (wrap64 (2 ^ (ji3).toNat))) = true := beq_iff_eq.mpr c6
  have c6b1 : (a0_0 != (wrap64 (2 ^ (ji3).toNat))) = false := bne_eq_false_iff_eq.mpr c6
  clear c6
  simp only [Option.some.injEq, Prod.mk.injEq] at H
  obtain ⟨rfl, rfl, rfl⟩ := H
  go_enter Try.func118, Try.ntmps118
  go_wp2_with (first | (refine xg 1 rfl ?_; refine xV 1 #[.int .i64 a0_0, .int .i64 a0_1, .int .i64 a0_2, .int .i64 a0_3, .bool a0_4] 62 ?_; intro gb519 hg w7 hbox hb; have BK519 := xA (hbox); have GW519 := xgw hg (below_size (xB HB.out)); have GE519 := GW519; replace HB := xA (below_step (xB HB.out) hb); clear hb hbox hg; obtain ⟨hcz8_0, hcz8_1, hcz8_2, hcz8_3, hcz8_4, hfz8_0, hfz8_1, hfz8_2, hfz8_3, hfz8_4⟩ := xZ5 BK519.out) | (refine xG (some 14) Try.func294 #[.agg #[.int .i64 a0_0, .int .i64 a0_1, .int .i64 a0_2, .int .i64 a0_3, .bool a0_4]] ?_; (with_reducible refine (impl_isFirst.calls a0_0 a0_1 a0_2 a0_3 a0_4 true _ A4.out).mono ?_); rintro e w9 ⟨rfl, hb⟩; refine ⟨_, rfl, ?_⟩; replace BK519 := xkb BK519 hb; replace HB := xA (below_step (xB1 GE519.out HB.out) hb); (try clear hb); obtain ⟨hcz10_0, hcz10_1, hcz10_2, hcz10_3, hcz10_4, hfz10_0, hfz10_1, hfz10_2, hfz10_3, hfz10_4⟩ := xZ5 BK519.out))
  go_ret3
  exact ⟨by first | rfl | (simp [errW_none, errW_some] <;> rfl) | (simp only [← hji2, ← hji3]; first | rfl | (simp [errW_none, errW_some] <;> rfl)) | (simp [*, errW_none, errW_some] <;> rfl), xB1 GE519.out HB.out⟩
 rw [if_neg c6] at H
 have c6b0 : (a0_0 == (wrap64 (2 ^ (ji3).toNat))) = false := beq_eq_false_iff_ne.mpr c6
 have c6b1 : (a0_0 != (wrap64 (2 ^ (ji3).toNat))) = true := bne_iff_ne.mpr c6
 replace H := Option.bind_eq_some_iff.mp H
 obtain ⟨⟨t521, t522⟩, A110, H⟩ := H
 (try dsimp only at H)
 have A11 := xA A110
 clear A110
 simp only [Option.some.injEq, Prod.mk.injEq] at H
 obtain ⟨rfl, rfl, rfl⟩ := H
 go_enter Try.func118, Try.ntmps118
 go_wp2_with (first | (refine xg 1 rfl ?_; refine xV 1 #[.int .i64 a0_0, .int .i64 a0_1, .int .i64 a0_2, .int .i64 a0_3, .bool a0_4] 62 ?_; intro gb519 hg w12 hbox hb; have BK519 := xA (hbox); have GW519 := xgw hg (below_size (xB HB.out)); have GE519 := GW519; replace HB := xA (below_step (xB HB.out) hb); clear hb hbox hg; replace hz519 := blk_cell BK519.out; replace hy519 := blk_frozen BK519.out) | (refine xG (some 14) Try.func294 #[.agg #[.int .i64 a0_0, .int .i64 a0_1, .int .i64 a0_2, .int .i64 a0_3, .bool a0_4]] ?_; (with_reducible refine (impl_isFirst.calls a0_0 a0_1 a0_2 a0_3 a0_4 true _ A4.out).mono ?_); rintro e w14 ⟨rfl, hb⟩; refine ⟨_, rfl, ?_⟩; replace BK519 := xkb BK519 hb; replace HB := xA (below_step (xB1 GE519.out HB.out) hb); (try clear hb); replace hz519 := blk_cell BK519.out; replace hy519 := blk_frozen BK519.out) | ((with_reducible refine gate_callee (f := 296) rfl ?_); refine goesL_ (some 28) rfl rfl Try.func296 (by kernel_rfl) rfl #[.int .i64 (wrap64 (2 ^ (ji3).toNat)), .int .i64 (wrap64 ((wrap64 (2 ^ (ji3).toNat)) - a0_0))] rfl (by (try simp only [List.map_toArray, List.map_cons, List.map_nil]); first | done | (simp only [hji3]; rfl) | rfl | (simp only [List.length_drop, List.length_take]; rfl)) ?_; (with_reducible refine (impl_lowest.calls k (wrap64 (2 ^ (ji3).toNat)) (wrap64 ((wrap64 (2 ^ (ji3).toNat)) - a0_0)) t521 t522 _ A11.out).mono ?_); rintro e w16 ⟨rfl, hb⟩; refine ⟨_, rfl, ?_⟩; replace BK519 := xkb BK519 hb; replace HB := xA (below_step (xB1 GE519.out HB.out) hb); (try clear hb)))
 go_ret3
 exact ⟨by first | rfl | (simp [errW_none, errW_some] <;> rfl) | (simp only [← hji2, ← hji3]; first | rfl | (simp [errW_none, errW_some] <;> rfl)) | (simp [*, errW_none, errW_some] <;> rfl), xB1 GE519.out HB.out⟩
end Go.Proofs.Ytjplcongellcmaa.PFnFirstCycles
