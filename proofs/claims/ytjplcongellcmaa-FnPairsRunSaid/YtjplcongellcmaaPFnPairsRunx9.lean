/- What each Go function that the statement FnPairsRun reaches answers, proved call by call. No condition beyond those that the theorems print. (Written by wip/tools/xprint.py of this repo, over the kit's print.) -/
import Derived.Test.YtjplcongellcmaaPFnPairsRunx0
import Derived.Test.YtjplcongellcmaaPFnPairsRunx7
import Derived.Test.YtjplcongellcmaaPFnPairsRunx8
namespace Go.Proofs.Ytjplcongellcmaa.PFnPairsRun
open Go.RowKit Go.Proofs.YtjplcongellcmaaW.PrintWords Go.Proofs.YtjplcongellcmaaW.PrintLast Go.Proofs.YtjplcongellcmaaW.PrintMore
attribute [local go_sem] max2_int min2_int max_two min_two max_three min_three max_four min_four   -- for this text's walks alone
set_option linter.unusedVariables false
set_option linter.unusedSimpArgs false

/-! ### spec_ExactSecond: function 141 -/
mutual
def spec_ExactSecond.j0 : Nat → Int → Int → List Int → Bool → Int → Int → Int → Int → Int → Bool → Option (List Int × Bool)
 | 0, _, _, _, _, _, _, _, _, _, _ => none
 | k + 1, x1, x2, x3, x24, x385000, x385001, x385002, x385003, x385004, x385005 => if x24 = true then (some (([] : List Int), false)) else (spec_ExactSecond.l0 k x1 x2 ([] : List Int) 1 x3 (x3.length : Int) 0 x385000 x385001 x385002 x385003 x385004 x385005)
def spec_ExactSecond.l0 : Nat → Int → Int → List Int → Int → List Int → Int → Int → Int → Int → Int → Int → Int → Bool → Option (List Int × Bool)
 | 0, _, _, _, _, _, _, _, _, _, _, _, _, _ => none
 | k + 1, x1, x2, x10, x11, x25, x26, x27, x385000, x385001, x385002, x385003, x385004, x385005 => if x27 < x26 then (if 0 ≤ x27 then (if x27 < (x25.length : Int) then (if 0 ≤ x385002 then (if (shl .i64 x11 x385002) > 1000000000000 then (some (([] : List Int), false)) else (if (x10.length : Int) = 0 then ((spec_wdNumber.f (wrap64 ((wrap64 ((wrap64 (x385000 * x1)) + (wrap64 (x385001 * x2)))) + (wrap64 ((rd x25 x27) * (shl .i64 x11 x385002)))))).bind fun t388 => (if t388 = true then (if x10.length < 17592186044416 then (spec_ExactSecond.l0 k (wrap64 ((wrap64 ((wrap64 (x385000 * x1)) + (wrap64 (x385001 * x2)))) + (wrap64 ((rd x25 x27) * (shl .i64 x11 x385002))))) x1 (x10 ++ [wrap64 ((wrap64 ((wrap64 (x385000 * x1)) + (wrap64 (x385001 * x2)))) + (wrap64 ((rd x25 x27) * (shl .i64 x11 x385002))))]) (shl .i64 x11 x385002) x25 x26 (wrap64 (x27 + 1)) x385000 x385001 x385002 x385003 x385004 x385005) else (none)) else (some (([] : List Int), false)))) else ((spec_wdNumber.f (wrap64 ((wrap64 ((wrap64 (x385000 * x1)) + (shl .i64 (wrap64 (x385001 * x2)) x385002))) + (wrap64 ((rd x25 x27) * (shl .i64 x11 x385002)))))).bind fun t392 => (if t392 = true then (if x10.length < 17592186044416 then (spec_ExactSecond.l0 k (wrap64 ((wrap64 ((wrap64 (x385000 * x1)) + (shl .i64 (wrap64 (x385001 * x2)) x385002))) + (wrap64 ((rd x25 x27) * (shl .i64 x11 x385002))))) x1 (x10 ++ [wrap64 ((wrap64 ((wrap64 (x385000 * x1)) + (shl .i64 (wrap64 (x385001 * x2)) x385002))) + (wrap64 ((rd x25 x27) * (shl .i64 x11 x385002))))]) (shl .i64 x11 x385002) x25 x26 (wrap64 (x27 + 1)) x385000 x385001 x385002 x385003 x385004 x385005) else (none)) else (some (([] : List Int), false)))))) else (none)) else (none)) else (none)) else (some (x10, true))
end
def spec_ExactSecond.f (k : Nat) (a0_0 : Int) (a0_1 : Int) (a0_2 : Int) (a0_3 : Int) (a0_4 : Int) (a0_5 : Bool) (a1 : Int) (a2 : Int) (l3 : List Int) : Option (List Int × Bool) := (spec_sdAsked.f a0_0 a0_1 a0_2 a0_3 a0_4 a0_5 a1 a2 0).bind fun t385 => (if t385 = true then ((spec_wdSignal.f k l3).bind fun t386 => (spec_ExactSecond.j0 k a1 a2 l3 (!t386) a0_0 a0_1 a0_2 a0_3 a0_4 a0_5)) else (spec_ExactSecond.j0 k a1 a2 l3 true a0_0 a0_1 a0_2 a0_3 a0_4 a0_5))
theorem spec_ExactSecond.mono_l : ∀ k, (∀ y0 y1 y2 y3 y4 y5 y6 y7 y8 y9, LeO (spec_ExactSecond.j0 k y0 y1 y2 y3 y4 y5 y6 y7 y8 y9) (spec_ExactSecond.j0 (k + 1) y0 y1 y2 y3 y4 y5 y6 y7 y8 y9)) ∧ (∀ y0 y1 y2 y3 y4 y5 y6 y7 y8 y9 y10 y11 y12, LeO (spec_ExactSecond.l0 k y0 y1 y2 y3 y4 y5 y6 y7 y8 y9 y10 y11 y12) (spec_ExactSecond.l0 (k + 1) y0 y1 y2 y3 y4 y5 y6 y7 y8 y9 y10 y11 y12))
 | 0 => ⟨fun _ _ _ _ _ _ _ _ _ _ r h => by simp [spec_ExactSecond.j0] at h, fun _ _ _ _ _ _ _ _ _ _ _ _ _ r h => by simp [spec_ExactSecond.l0] at h⟩
 | k + 1 => by
  obtain ⟨ih0, ih1⟩ := spec_ExactSecond.mono_l k
  have m0 := @spec_wdSignal.mono
  refine ⟨?_, ?_⟩ <;> intros
  ·unfold spec_ExactSecond.j0; exact xM
  ·unfold spec_ExactSecond.l0; exact xM
theorem spec_ExactSecond.mono : ∀ a0 a1 a2 a3 a4 a5 a6 a7 a8 k, LeO (spec_ExactSecond.f k a0 a1 a2 a3 a4 a5 a6 a7 a8) (spec_ExactSecond.f (k + 1) a0 a1 a2 a3 a4 a5 a6 a7 a8) := by
 intro a0 a1 a2 a3 a4 a5 a6 a7 a8 k
 obtain ⟨ih0, ih1⟩ := spec_ExactSecond.mono_l k
 have m0 := @spec_wdSignal.mono
 unfold spec_ExactSecond.f
 exact xM
set_option maxHeartbeats 200000000 in
set_option maxRecDepth 100000 in
theorem spec_ExactSecond.calls (k : Nat) (a0_0 : Int) (a0_1 : Int) (a0_2 : Int) (a0_3 : Int) (a0_4 : Int) (a0_5 : Bool) (a1 : Int) (a2 : Int) (A3 : Option Addr) (c3 : Nat) (l3 : List Int) (r1 : List Int) (r2 : Bool) (w : World) (hr3 : Kd.C (Kd.int .i64) w A3 l3.length l3) (hc3 : l3.length ≤ c3) (h : spec_ExactSecond.f k a0_0 a0_1 a0_2 a0_3 a0_4 a0_5 a1 a2 l3 = some (r1, r2)) :
  Calls Try.prog 141 #[.agg #[.int .i64 a0_0, .int .i64 a0_1, .int .i64 a0_2, .int .i64 a0_3, .int .i64 a0_4, .bool a0_5], .int .i64 a1, .int .i64 a2, .slice A3 l3.length c3] w fun e w' => ∃ v0_ : Value, e = .returned (.tuple #[v0_, .bool r2]) ∧ Kd.R (Kd.int .i64) 3 w' w.heap.size (fun _ => True) v0_ r1 ∧ Below w.heap.size w w' := by
 have hu91 := Try.underlying91
 have HR3 := xA hr3
 have HC3 := xA hc3
 clear hr3 hc3
 have HB := xA (Below.refl w.heap.size w)
 have H : ((spec_sdAsked.f a0_0 a0_1 a0_2 a0_3 a0_4 a0_5 a1 a2 0).bind fun t385 => (if t385 = true then ((spec_wdSignal.f k l3).bind fun t386 => (spec_ExactSecond.j0 k a1 a2 l3 (!t386) a0_0 a0_1 a0_2 a0_3 a0_4 a0_5)) else (spec_ExactSecond.j0 k a1 a2 l3 true a0_0 a0_1 a0_2 a0_3 a0_4 a0_5))) = some (r1, r2) := h
 clear h
 have HC5 := xA H
 clear H
 go_enter Try.func141, Try.ntmps141
 go_upto_region 1 with (first | (refine xg 4 rfl ?_; refine xV 4 #[.int .i64 a0_0, .int .i64 a0_1, .int .i64 a0_2, .int .i64 a0_3, .int .i64 a0_4, .bool a0_5] 91 ?_; intro gb384 hg w6 hbox hb; have BK384 := xA (hbox); have GW384 := xgw hg (below_size (xB HB.out)); have GE384 := GW384; replace HB := xA (below_step (xB HB.out) hb); clear hb hbox hg))
 repeat (go_quiet (first | (refine xg 4 rfl ?_; refine xV 4 #[.int .i64 a0_0, .int .i64 a0_1, .int .i64 a0_2, .int .i64 a0_3, .int .i64 a0_4, .bool a0_5] 91 ?_; intro gb384 hg w6 hbox hb; have BK384 := xA (hbox); have GW384 := xgw hg (below_size (xB HB.out)); have GE384 := GW384; replace HB := xA (below_step (xB HB.out) hb); clear hb hbox hg)); go_upto_region 1 with (first | (refine xg 4 rfl ?_; refine xV 4 #[.int .i64 a0_0, .int .i64 a0_1, .int .i64 a0_2, .int .i64 a0_3, .int .i64 a0_4, .bool a0_5] 91 ?_; intro gb384 hg w6 hbox hb; have BK384 := xA (hbox); have GW384 := xgw hg (below_size (xB HB.out)); have GE384 := GW384; replace HB := xA (below_step (xB HB.out) hb); clear hb hbox hg)))
 (try simp only [Act.put, List.setIfInBounds_toArray, List.set_cons_zero, List.set_cons_succ])
 go_cut [24] from 15 to 15 (fun v24 wc => ∃ (kq : Nat) (x24_4 : Bool), v24 = .bool x24_4 ∧ Aside0 (spec_ExactSecond.j0 kq a1 a2 l3 x24_4 a0_0 a0_1 a0_2 a0_3 a0_4 a0_5 = some (r1, r2)) ∧ Aside0 (kq ≤ k) ∧ Aside0 (wc.heap[gb384]? = some (.cells #[.int .i64 a0_0, .int .i64 a0_1, .int .i64 a0_2, .int .i64 a0_3, .int .i64 a0_4, .bool a0_5] 91 (0, 0))) ∧ Aside0 (Below w.heap.size w wc))
 case first => as_aux_lemma =>
  have H := HC5.out
  clear HC5
  obtain ⟨t385, A7, H⟩ := xO H
  (try dsimp only at H)
  by_cases c8 : t385 = true
  rotate_left
  ·replace c8 := Bool.eq_false_iff.mpr c8
   subst c8
   rw [if_neg (show ¬ (false = true) by decide)] at H
   have H' := xA H
   clear H
   replace hz384 := blk_cell BK384.out; replace hy384 := blk_frozen BK384.out
   go_wp2_with (first | (go_at_call 338; (with_reducible refine (spec_sdAsked.calls a0_0 a0_1 a0_2 a0_3 a0_4 a0_5 a1 a2 0 false _ A7.out).mono ?_); rintro e w13 ⟨rfl, hb⟩; replace BK384 := xkb BK384 hb; replace HB := xA (below_step (xB1 GE384.out HB.out) hb); (try clear hb)))
   repeat (go_quiet (first | (go_at_call 338; (with_reducible refine (spec_sdAsked.calls a0_0 a0_1 a0_2 a0_3 a0_4 a0_5 a1 a2 0 false _ A7.out).mono ?_); rintro e w13 ⟨rfl, hb⟩; replace BK384 := xkb BK384 hb; replace HB := xA (below_step (xB1 GE384.out HB.out) hb); (try clear hb))); try go_wp2_with (first | (go_at_call 338; (with_reducible refine (spec_sdAsked.calls a0_0 a0_1 a0_2 a0_3 a0_4 a0_5 a1 a2 0 false _ A7.out).mono ?_); rintro e w13 ⟨rfl, hb⟩; replace BK384 := xkb BK384 hb; replace HB := xA (below_step (xB1 GE384.out HB.out) hb); (try clear hb))))
   go_meet
   case rel => exact ⟨_, (true), xs, H', ⟨by first | omega | exact Nat.le_refl _⟩, ⟨xK BK384.out⟩, ⟨xB1 GE384.out HB.out⟩⟩
  subst c8
  rw [if_pos rfl] at H
  obtain ⟨t386, A9, H⟩ := xO H
  (try dsimp only at H)
  have H' := xA H
  clear H
  replace hz384 := blk_cell BK384.out; replace hy384 := blk_frozen BK384.out
  go_wp2_with (first | (go_at_call 338; (with_reducible refine (spec_sdAsked.calls a0_0 a0_1 a0_2 a0_3 a0_4 a0_5 a1 a2 0 true _ A7.out).mono ?_); rintro e w11 ⟨rfl, hb⟩; replace BK384 := xkb BK384 hb; replace HB := xA (below_step (xB1 GE384.out HB.out) hb); (try clear hb)) | (go_at_call 236; (with_reducible refine (spec_wdSignal.calls k _ _ l3 t386 _ ?side1 ?side2 A9.out).mono ?_); (case side1 => exact xC (Kd.C_below HR3.out HB.out)); (case side2 => exact HC3.out); rintro e w' ⟨rfl, ⟨nd, rfl⟩⟩; (try exact xD)))
  repeat (go_quiet (first | (go_at_call 338; (with_reducible refine (spec_sdAsked.calls a0_0 a0_1 a0_2 a0_3 a0_4 a0_5 a1 a2 0 true _ A7.out).mono ?_); rintro e w11 ⟨rfl, hb⟩; replace BK384 := xkb BK384 hb; replace HB := xA (below_step (xB1 GE384.out HB.out) hb); (try clear hb)) | (go_at_call 236; (with_reducible refine (spec_wdSignal.calls k _ _ l3 t386 _ ?side1 ?side2 A9.out).mono ?_); (case side1 => exact xC (Kd.C_below HR3.out HB.out)); (case side2 => exact HC3.out); rintro e w' ⟨rfl, ⟨nd, rfl⟩⟩; (try exact xD))); try go_wp2_with (first | (go_at_call 338; (with_reducible refine (spec_sdAsked.calls a0_0 a0_1 a0_2 a0_3 a0_4 a0_5 a1 a2 0 true _ A7.out).mono ?_); rintro e w11 ⟨rfl, hb⟩; replace BK384 := xkb BK384 hb; replace HB := xA (below_step (xB1 GE384.out HB.out) hb); (try clear hb)) | (go_at_call 236; (with_reducible refine (spec_wdSignal.calls k _ _ l3 t386 _ ?side1 ?side2 A9.out).mono ?_); (case side1 => exact xC (Kd.C_below HR3.out HB.out)); (case side2 => exact HC3.out); rintro e w' ⟨rfl, ⟨nd, rfl⟩⟩; (try exact xD))))
  go_meet
  case rel => exact ⟨_, (!t386), xs, H', ⟨by first | omega | exact Nat.le_refl _⟩, ⟨xK BK384.out⟩, ⟨xB1 GE384.out HB.out⟩⟩
 case rest => as_aux_lemma =>
  clear HC5
  try clear c3
  obtain ⟨kq, x24_4, rfl, HA, HJ4, BK384, HB⟩ := hcut
  cases kq with
  | zero => exact absurd HA.out (by simp [spec_ExactSecond.j0])
  | succ kj4 =>
   have H := HA.out
   clear HA
   simp only [spec_ExactSecond.j0] at H
   by_cases c14 : x24_4 = true
   ·subst c14
    rw [if_pos rfl] at H
    simp only [Option.some.injEq, Prod.mk.injEq] at H
    obtain ⟨rfl, rfl⟩ := H
    go_wp2
    repeat (go_quiet (fail); try go_wp2)
    go_ret2
    exact ⟨_, xr, by first | exact Kd.R_nil _ _ _ _ _ | exact Kd.N_nil _ _ _ _ _ | exact Kd.V_nil _ _ _ _ _ | exact Kd.Q_nil _ _ _ _ _ | exact Kd.S_nil _ _ _ _ _, xB1 GE384.out HB.out⟩
   replace c14 := Bool.eq_false_iff.mpr c14
   subst c14
   rw [if_neg (show ¬ (false = true) by decide)] at H
   have H' := xA H
   clear H
   go_wp2
   repeat (go_quiet (fail); try go_wp2)
   go_loopg [1, 2, 10, 11, 27] kj4 (fun kq v1 v2 v10 v11 v27 w' => ∃ (x1_2 : Int) (x2_2 : Int) (x10_2 : List Int) (x11_2 : Int) (x27_2 : Int), v1 = .int .i64 x1_2 ∧ v2 = .int .i64 x2_2 ∧ v11 = .int .i64 x11_2 ∧ v27 = .int .i64 x27_2 ∧ Aside0 (spec_ExactSecond.l0 kq x1_2 x2_2 x10_2 x11_2 l3 (l3.length : Int) x27_2 a0_0 a0_1 a0_2 a0_3 a0_4 a0_5 = some (r1, r2)) ∧ Aside0 (kq ≤ kj4) ∧ Aside0 (Kd.R (Kd.int .i64) 3 w' w.heap.size (fun _ => True) v10 x10_2) ∧ Aside0 (w'.heap[gb384]? = some (.cells #[.int .i64 a0_0, .int .i64 a0_1, .int .i64 a0_2, .int .i64 a0_3, .int .i64 a0_4, .bool a0_5] 91 (0, 0))) ∧ Aside0 (Below w.heap.size w w'))
   case atStart => exact ⟨(a1), (a2), (([] : List Int)), (1), (0), xs, xs, xs, xs, H', ⟨Nat.le_refl _⟩, ⟨by first | exact Kd.R_nil _ _ _ _ _ | exact Kd.N_nil _ _ _ _ _ | exact Kd.V_nil _ _ _ _ _ | exact Kd.Q_nil _ _ _ _ _ | exact Kd.S_nil _ _ _ _ _⟩, ⟨xK BK384.out⟩, ⟨xB1 GE384.out HB.out⟩⟩
   case round =>
    clear H'
    try clear c14
    obtain ⟨x1_2, x2_2, x10_2, x11_2, x27_2, rfl, rfl, rfl, rfl, HA, HK2, HO_10, BK384, HB⟩ := hrel
    cases gk with
    | zero => exact absurd HA.out (by simp [spec_ExactSecond.l0])
    | succ k2 =>
     have H := HA.out
     clear HA
     simp only [spec_ExactSecond.l0] at H
     by_cases c15 : x27_2 < (l3.length : Int)
     rotate_left
     ·rw [if_neg c15] at H
      have c15b0 : decide (x27_2 < (l3.length : Int)) = false := decide_eq_false c15
      clear c15
      simp only [Option.some.injEq, Prod.mk.injEq] at H
      obtain ⟨rfl, rfl⟩ := H
      go_wp2
      repeat (go_quiet (fail); try go_wp2)
      go_ret2
      exact ⟨_, xr, xR HO_10.out, xB1 GE384.out HB.out⟩

     rw [if_pos c15] at H
     have c15b0 : decide (x27_2 < (l3.length : Int)) = true := decide_eq_true c15
     clear c15
     by_cases c16 : 0 ≤ x27_2
     rotate_left
     ·rw [if_neg c16] at H
      exact absurd H (by simp)
     rw [if_pos c16] at H
     have c16b0 : decide (0 ≤ x27_2) = true := decide_eq_true c16
     clear c16
     by_cases c17 : x27_2 < (l3.length : Int)
     rotate_left
     ·rw [if_neg c17] at H
      exact absurd H (by simp)
     rw [if_pos c17] at H
     have c17b0 : decide (x27_2 < (l3.length : Int)) = true := decide_eq_true c17
     clear c17
     by_cases c18 : 0 ≤ a0_2
     rotate_left
     ·rw [if_neg c18] at H
      exact absurd H (by simp)
     rw [if_pos c18] at H
     have c18b0 := eq_true c18
     have c18b1 : decide (0 ≤ a0_2) = true := decide_eq_true c18
     clear c18
     obtain ⟨ji19, hji19⟩ : ∃ j_ : Int, (shl .i64 x11_2 a0_2) = j_ := ⟨_, rfl⟩
     (first | rw [hji19] at H | simp only [hji19] at H)
     obtain ⟨hji19_, hji19z, hji19y, hji19x⟩ := xSh hji19
     by_cases c20 : (ji19) > 1000000000000
     ·rw [if_pos c20] at H
      have c20b0 : decide (1000000000000 < (ji19)) = true := decide_eq_true c20
      clear c20
      simp only [Option.some.injEq, Prod.mk.injEq] at H
      obtain ⟨rfl, rfl⟩ := H
      have p387 : 0 ≤ (x27_2 : Int) := of_decide_eq_true (by first | (with_reducible assumption) | assumption)
      have q387 : x27_2 < (l3.length : Int) := of_decide_eq_true (by first | (with_reducible assumption) | assumption)
      obtain ⟨ad387, e387, hx387_0⟩ := Kd.at_int HR3.out x27_2 p387 q387
      cases e387
      replace hx387_0 := (HB.out.cell (World.block_lt_of_cell? w _ hx387_0)).trans hx387_0
      replace p387 := eq_true p387
      replace q387 := eq_true q387
      replace hz384 := blk_cell BK384.out; replace hy384 := blk_frozen BK384.out
      go_wp2
      repeat (go_quiet (fail); try go_wp2)
      go_ret2
      exact ⟨_, by first | rfl | (simp [errW_none, errW_some] <;> rfl) | (simp only [← hji19]; first | rfl | (simp [errW_none, errW_some] <;> rfl)) | (simp [*, errW_none, errW_some] <;> rfl), by first | exact Kd.R_nil _ _ _ _ _ | exact Kd.N_nil _ _ _ _ _ | exact Kd.V_nil _ _ _ _ _ | exact Kd.Q_nil _ _ _ _ _ | exact Kd.S_nil _ _ _ _ _, xB1 GE384.out HB.out⟩
     rw [if_neg c20] at H
     have c20b0 : decide (1000000000000 < (ji19)) = false := decide_eq_false c20
     clear c20
     have c22b0 := eq_true (of_decide_eq_true (by first | (with_reducible assumption) | assumption) : 0 ≤ a0_2)
     obtain ⟨ji23, hji23⟩ : ∃ j_ : Int, (shl .i64 (wrap64 (a0_1 * x2_2)) a0_2) = j_ := ⟨_, rfl⟩
     (first | rw [hji23] at H | simp only [hji23] at H)
     obtain ⟨hji23_, hji23z, hji23y, hji23x⟩ := xSh hji23
     by_cases c24 : (x10_2.length : Int) = 0
     rotate_left
     ·rw [if_neg c24] at H
      have c24b0 : ((x10_2.length : Int) == 0) = false := beq_eq_false_iff_ne.mpr c24
      have c24b1 : ((x10_2.length : Int) != 0) = true := bne_iff_ne.mpr c24
      have c24b2 : ¬ (x10_2 = []) := fun h_ => c24 (by rw [h_]; rfl)
      obtain ⟨t392, A33, H⟩ := xO H
      (try dsimp only at H)
      by_cases c34 : t392 = true
      rotate_left
      ·replace c34 := Bool.eq_false_iff.mpr c34
       subst c34
       rw [if_neg (show ¬ (false = true) by decide)] at H
       simp only [Option.some.injEq, Prod.mk.injEq] at H
       obtain ⟨rfl, rfl⟩ := H
       have p387 : 0 ≤ (x27_2 : Int) := of_decide_eq_true (by first | (with_reducible assumption) | assumption)
       have q387 : x27_2 < (l3.length : Int) := of_decide_eq_true (by first | (with_reducible assumption) | assumption)
       obtain ⟨ad387, e387, hx387_0⟩ := Kd.at_int HR3.out x27_2 p387 q387
       cases e387
       replace hx387_0 := (HB.out.cell (World.block_lt_of_cell? w _ hx387_0)).trans hx387_0
       replace p387 := eq_true p387
       replace q387 := eq_true q387
       replace hz384 := blk_cell BK384.out; replace hy384 := blk_frozen BK384.out
       obtain ⟨Ao40, co40, eo40⟩ := Kd.R_slice HO_10.out
       subst eo40
       go_wp2_with (first | (go_at_call 342; (with_reducible refine (spec_wdNumber.calls (wrap64 ((wrap64 ((wrap64 (a0_0 * x1_2)) + (ji23))) + (wrap64 ((rd l3 x27_2) * (ji19))))) false _ A33.out).mono ?_); rintro e w' ⟨rfl, ⟨nd, rfl⟩⟩; (try exact xD)))
       repeat (go_quiet (first | (go_at_call 342; (with_reducible refine (spec_wdNumber.calls (wrap64 ((wrap64 ((wrap64 (a0_0 * x1_2)) + (ji23))) + (wrap64 ((rd l3 x27_2) * (ji19))))) false _ A33.out).mono ?_); rintro e w' ⟨rfl, ⟨nd, rfl⟩⟩; (try exact xD))); try go_wp2_with (first | (go_at_call 342; (with_reducible refine (spec_wdNumber.calls (wrap64 ((wrap64 ((wrap64 (a0_0 * x1_2)) + (ji23))) + (wrap64 ((rd l3 x27_2) * (ji19))))) false _ A33.out).mono ?_); rintro e w' ⟨rfl, ⟨nd, rfl⟩⟩; (try exact xD))))
       go_ret2
       exact ⟨_, by first | rfl | (simp [errW_none, errW_some] <;> rfl) | (simp only [← hji19, ← hji23]; first | rfl | (simp [errW_none, errW_some] <;> rfl)) | (simp [*, errW_none, errW_some] <;> rfl), by first | exact Kd.R_nil _ _ _ _ _ | exact Kd.N_nil _ _ _ _ _ | exact Kd.V_nil _ _ _ _ _ | exact Kd.Q_nil _ _ _ _ _ | exact Kd.S_nil _ _ _ _ _, xB1 GE384.out HB.out⟩
      subst c34
      rw [if_pos rfl] at H
      by_cases c35 : x10_2.length < 17592186044416
      rotate_left
      ·rw [if_neg c35] at H
       exact absurd H (by simp)
      rw [if_pos c35] at H
      have LMc35 := xA c35
      clear c35
      obtain ⟨y393, hy393⟩ : ∃ y_ : List Int, y_ = (x10_2 ++ [wrap64 ((wrap64 ((wrap64 (a0_0 * x1_2)) + (ji23))) + (wrap64 ((rd l3 x27_2) * (ji19))))]) := ⟨_, rfl⟩
      replace H : (spec_ExactSecond.l0 k2 (wrap64 ((wrap64 ((wrap64 (a0_0 * x1_2)) + (ji23))) + (wrap64 ((rd l3 x27_2) * (ji19))))) x1_2 y393 ji19 l3 (l3.length : Int) (wrap64 (x27_2 + 1)) a0_0 a0_1 a0_2 a0_3 a0_4 a0_5) = some (r1, r2) := by first | (rw [hy393]; with_reducible exact H) | (have H2_ := (Option.bind_some _ _).symm.trans H; rw [hy393]; with_reducible exact H2_) | (have H2_ := (Option.bind_some _ _).symm.trans H; with_reducible exact H2_) | with_reducible exact H | (rw [hy393]; exact H) | exact H
      have Ny393 := xA hy393
      clear hy393
      have H' := xA H
      clear H
      have p387 : 0 ≤ (x27_2 : Int) := of_decide_eq_true (by first | (with_reducible assumption) | assumption)
      have q387 : x27_2 < (l3.length : Int) := of_decide_eq_true (by first | (with_reducible assumption) | assumption)
      obtain ⟨ad387, e387, hx387_0⟩ := Kd.at_int HR3.out x27_2 p387 q387
      cases e387
      replace hx387_0 := (HB.out.cell (World.block_lt_of_cell? w _ hx387_0)).trans hx387_0
      replace p387 := eq_true p387
      replace q387 := eq_true q387
      replace hz384 := blk_cell BK384.out; replace hy384 := blk_frozen BK384.out
      obtain ⟨Ao37, co37, eo37⟩ := Kd.R_slice HO_10.out
      subst eo37
      go_wp2_with (first | (go_at_call 342; (with_reducible refine (spec_wdNumber.calls (wrap64 ((wrap64 ((wrap64 (a0_0 * x1_2)) + (ji23))) + (wrap64 ((rd l3 x27_2) * (ji19))))) true _ A33.out).mono ?_); rintro e w' ⟨rfl, ⟨nd, rfl⟩⟩; (try exact xD)) | ((with_reducible refine gate_builtin (b := .append) (xs := #[.tmp 74, .tmp 76]) rfl ?_); at_builtin; refine Kd.R_append (Kd.int .i64) (w0 := w) w.heap.size rfl (.tmp 74) (.tmp 76) 24 3 (.int .i64 0) 8 rfl Try.underlying24 info3 rfl (by decide) (by omega) (.slice Ao37 x10_2.length co37) x10_2 (wrap64 ((wrap64 ((wrap64 (a0_0 * x1_2)) + (ji23))) + (wrap64 ((rd l3 x27_2) * (ji19))))) [.int .i64 (wrap64 ((wrap64 ((wrap64 (a0_0 * x1_2)) + (ji23))) + (wrap64 ((rd l3 x27_2) * (ji19)))))] (fun _ => True) (fun _ => False) rfl rfl ?aP (fun _ hk => hk.elim) ?aF ?aO ?aB ?aS ?aL ?_; (case aP => exact rfl); (case aB => exact (xB1 GE384.out HB.out)); (case aF => exact (fun _ _ => trivial)); (case aO => exact (xR HO_10.out)); (case aS => exact (below_size (xB1 GE384.out HB.out))); (case aL => have := LMc35.out; omega); intro v394 w38 ho hb hg hat; rw [← Ny393.out] at ho; replace BK384 := xA (blk_grown (xK BK384.out) hg (Kd.R_ne HO_10.out BK384.out (by decide))); replace HB := xA (hb); have HO395 := xA (ho); clear HO_10; clear ho hb hg hat))
      repeat (go_quiet (first | (go_at_call 342; (with_reducible refine (spec_wdNumber.calls (wrap64 ((wrap64 ((wrap64 (a0_0 * x1_2)) + (ji23))) + (wrap64 ((rd l3 x27_2) * (ji19))))) true _ A33.out).mono ?_); rintro e w' ⟨rfl, ⟨nd, rfl⟩⟩; (try exact xD)) | ((with_reducible refine gate_builtin (b := .append) (xs := #[.tmp 74, .tmp 76]) rfl ?_); at_builtin; refine Kd.R_append (Kd.int .i64) (w0 := w) w.heap.size rfl (.tmp 74) (.tmp 76) 24 3 (.int .i64 0) 8 rfl Try.underlying24 info3 rfl (by decide) (by omega) (.slice Ao37 x10_2.length co37) x10_2 (wrap64 ((wrap64 ((wrap64 (a0_0 * x1_2)) + (ji23))) + (wrap64 ((rd l3 x27_2) * (ji19))))) [.int .i64 (wrap64 ((wrap64 ((wrap64 (a0_0 * x1_2)) + (ji23))) + (wrap64 ((rd l3 x27_2) * (ji19)))))] (fun _ => True) (fun _ => False) rfl rfl ?aP (fun _ hk => hk.elim) ?aF ?aO ?aB ?aS ?aL ?_; (case aP => exact rfl); (case aB => exact (xB1 GE384.out HB.out)); (case aF => exact (fun _ _ => trivial)); (case aO => exact (xR HO_10.out)); (case aS => exact (below_size (xB1 GE384.out HB.out))); (case aL => have := LMc35.out; omega); intro v394 w38 ho hb hg hat; rw [← Ny393.out] at ho; replace BK384 := xA (blk_grown (xK BK384.out) hg (Kd.R_ne HO_10.out BK384.out (by decide))); replace HB := xA (hb); have HO395 := xA (ho); clear HO_10; clear ho hb hg hat)); try go_wp2_with (first | (go_at_call 342; (with_reducible refine (spec_wdNumber.calls (wrap64 ((wrap64 ((wrap64 (a0_0 * x1_2)) + (ji23))) + (wrap64 ((rd l3 x27_2) * (ji19))))) true _ A33.out).mono ?_); rintro e w' ⟨rfl, ⟨nd, rfl⟩⟩; (try exact xD)) | ((with_reducible refine gate_builtin (b := .append) (xs := #[.tmp 74, .tmp 76]) rfl ?_); at_builtin; refine Kd.R_append (Kd.int .i64) (w0 := w) w.heap.size rfl (.tmp 74) (.tmp 76) 24 3 (.int .i64 0) 8 rfl Try.underlying24 info3 rfl (by decide) (by omega) (.slice Ao37 x10_2.length co37) x10_2 (wrap64 ((wrap64 ((wrap64 (a0_0 * x1_2)) + (ji23))) + (wrap64 ((rd l3 x27_2) * (ji19))))) [.int .i64 (wrap64 ((wrap64 ((wrap64 (a0_0 * x1_2)) + (ji23))) + (wrap64 ((rd l3 x27_2) * (ji19)))))] (fun _ => True) (fun _ => False) rfl rfl ?aP (fun _ hk => hk.elim) ?aF ?aO ?aB ?aS ?aL ?_; (case aP => exact rfl); (case aB => exact (xB1 GE384.out HB.out)); (case aF => exact (fun _ _ => trivial)); (case aO => exact (xR HO_10.out)); (case aS => exact (below_size (xB1 GE384.out HB.out))); (case aL => have := LMc35.out; omega); intro v394 w38 ho hb hg hat; rw [← Ny393.out] at ho; replace BK384 := xA (blk_grown (xK BK384.out) hg (Kd.R_ne HO_10.out BK384.out (by decide))); replace HB := xA (hb); have HO395 := xA (ho); clear HO_10; clear ho hb hg hat)))
      go_roundg k2
      case measure => have := HJ4.out; have := HK2.out; omega
      case rel => exact ⟨(wrap64 ((wrap64 ((wrap64 (a0_0 * x1_2)) + (ji23))) + (wrap64 ((rd l3 x27_2) * (ji19))))), (x1_2), (y393), (ji19), (wrap64 (x27_2 + 1)), (by first | rfl | (simp; done) | (simp only [← hji19, ← hji23] <;> (first | rfl | simp)) | (simp [*]; done)), xs, (by first | rfl | (simp; done) | (simp only [← hji19] <;> (first | rfl | simp)) | (simp [*]; done)), xs, H', ⟨by have := HJ4.out; have := HK2.out; omega⟩, ⟨xR HO395.out⟩, ⟨xK BK384.out⟩, ⟨xB1 GE384.out HB.out⟩⟩
     rw [if_pos c24] at H
     have c24b0 : ((x10_2.length : Int) == 0) = true := beq_iff_eq.mpr c24
     have c24b1 : ((x10_2.length : Int) != 0) = false := bne_eq_false_iff_eq.mpr c24
     clear c24
     obtain ⟨t388, A25, H⟩ := xO H
     (try dsimp only at H)
     by_cases c26 : t388 = true
     rotate_left
     ·replace c26 := Bool.eq_false_iff.mpr c26
      subst c26
      rw [if_neg (show ¬ (false = true) by decide)] at H
      simp only [Option.some.injEq, Prod.mk.injEq] at H
      obtain ⟨rfl, rfl⟩ := H
      have p387 : 0 ≤ (x27_2 : Int) := of_decide_eq_true (by first | (with_reducible assumption) | assumption)
      have q387 : x27_2 < (l3.length : Int) := of_decide_eq_true (by first | (with_reducible assumption) | assumption)
      obtain ⟨ad387, e387, hx387_0⟩ := Kd.at_int HR3.out x27_2 p387 q387
      cases e387
      replace hx387_0 := (HB.out.cell (World.block_lt_of_cell? w _ hx387_0)).trans hx387_0
      replace p387 := eq_true p387
      replace q387 := eq_true q387
      replace hz384 := blk_cell BK384.out; replace hy384 := blk_frozen BK384.out
      obtain ⟨Ao32, co32, eo32⟩ := Kd.R_slice HO_10.out
      subst eo32
      go_wp2_with (first | (go_at_call 342; (with_reducible refine (spec_wdNumber.calls (wrap64 ((wrap64 ((wrap64 (a0_0 * x1_2)) + (wrap64 (a0_1 * x2_2)))) + (wrap64 ((rd l3 x27_2) * (ji19))))) false _ A25.out).mono ?_); rintro e w' ⟨rfl, ⟨nd, rfl⟩⟩; (try exact xD)))
      repeat (go_quiet (first | (go_at_call 342; (with_reducible refine (spec_wdNumber.calls (wrap64 ((wrap64 ((wrap64 (a0_0 * x1_2)) + (wrap64 (a0_1 * x2_2)))) + (wrap64 ((rd l3 x27_2) * (ji19))))) false _ A25.out).mono ?_); rintro e w' ⟨rfl, ⟨nd, rfl⟩⟩; (try exact xD))); try go_wp2_with (first | (go_at_call 342; (with_reducible refine (spec_wdNumber.calls (wrap64 ((wrap64 ((wrap64 (a0_0 * x1_2)) + (wrap64 (a0_1 * x2_2)))) + (wrap64 ((rd l3 x27_2) * (ji19))))) false _ A25.out).mono ?_); rintro e w' ⟨rfl, ⟨nd, rfl⟩⟩; (try exact xD))))
      go_ret2
      exact ⟨_, by first | rfl | (simp [errW_none, errW_some] <;> rfl) | (simp only [← hji19, ← hji23]; first | rfl | (simp [errW_none, errW_some] <;> rfl)) | (simp [*, errW_none, errW_some] <;> rfl), by first | exact Kd.R_nil _ _ _ _ _ | exact Kd.N_nil _ _ _ _ _ | exact Kd.V_nil _ _ _ _ _ | exact Kd.Q_nil _ _ _ _ _ | exact Kd.S_nil _ _ _ _ _, xB1 GE384.out HB.out⟩
     subst c26
     rw [if_pos rfl] at H
     by_cases c27 : x10_2.length < 17592186044416
     rotate_left
     ·rw [if_neg c27] at H
      exact absurd H (by simp)
     rw [if_pos c27] at H
     have LMc27 := xA c27
     clear c27
     obtain ⟨y389, hy389⟩ : ∃ y_ : List Int, y_ = (x10_2 ++ [wrap64 ((wrap64 ((wrap64 (a0_0 * x1_2)) + (wrap64 (a0_1 * x2_2)))) + (wrap64 ((rd l3 x27_2) * (ji19))))]) := ⟨_, rfl⟩
     replace H : (spec_ExactSecond.l0 k2 (wrap64 ((wrap64 ((wrap64 (a0_0 * x1_2)) + (wrap64 (a0_1 * x2_2)))) + (wrap64 ((rd l3 x27_2) * (ji19))))) x1_2 y389 ji19 l3 (l3.length : Int) (wrap64 (x27_2 + 1)) a0_0 a0_1 a0_2 a0_3 a0_4 a0_5) = some (r1, r2) := by first | (rw [hy389]; with_reducible exact H) | (have H2_ := (Option.bind_some _ _).symm.trans H; rw [hy389]; with_reducible exact H2_) | (have H2_ := (Option.bind_some _ _).symm.trans H; with_reducible exact H2_) | with_reducible exact H | (rw [hy389]; exact H) | exact H
     have Ny389 := xA hy389
     clear hy389
     have H' := xA H
     clear H
     have p387 : 0 ≤ (x27_2 : Int) := of_decide_eq_true (by first | (with_reducible assumption) | assumption)
     have q387 : x27_2 < (l3.length : Int) := of_decide_eq_true (by first | (with_reducible assumption) | assumption)
     obtain ⟨ad387, e387, hx387_0⟩ := Kd.at_int HR3.out x27_2 p387 q387
     cases e387
     replace hx387_0 := (HB.out.cell (World.block_lt_of_cell? w _ hx387_0)).trans hx387_0
     replace p387 := eq_true p387
     replace q387 := eq_true q387
     replace hz384 := blk_cell BK384.out; replace hy384 := blk_frozen BK384.out
     obtain ⟨Ao29, co29, eo29⟩ := Kd.R_slice HO_10.out
     subst eo29
     go_wp2_with (first | (go_at_call 342; (with_reducible refine (spec_wdNumber.calls (wrap64 ((wrap64 ((wrap64 (a0_0 * x1_2)) + (wrap64 (a0_1 * x2_2)))) + (wrap64 ((rd l3 x27_2) * (ji19))))) true _ A25.out).mono ?_); rintro e w' ⟨rfl, ⟨nd, rfl⟩⟩; (try exact xD)) | ((with_reducible refine gate_builtin (b := .append) (xs := #[.tmp 74, .tmp 76]) rfl ?_); at_builtin; refine Kd.R_append (Kd.int .i64) (w0 := w) w.heap.size rfl (.tmp 74) (.tmp 76) 24 3 (.int .i64 0) 8 rfl Try.underlying24 info3 rfl (by decide) (by omega) (.slice Ao29 x10_2.length co29) x10_2 (wrap64 ((wrap64 ((wrap64 (a0_0 * x1_2)) + (wrap64 (a0_1 * x2_2)))) + (wrap64 ((rd l3 x27_2) * (ji19))))) [.int .i64 (wrap64 ((wrap64 ((wrap64 (a0_0 * x1_2)) + (wrap64 (a0_1 * x2_2)))) + (wrap64 ((rd l3 x27_2) * (ji19)))))] (fun _ => True) (fun _ => False) rfl rfl ?aP (fun _ hk => hk.elim) ?aF ?aO ?aB ?aS ?aL ?_; (case aP => exact rfl); (case aB => exact (xB1 GE384.out HB.out)); (case aF => exact (fun _ _ => trivial)); (case aO => exact (xR HO_10.out)); (case aS => exact (below_size (xB1 GE384.out HB.out))); (case aL => have := LMc27.out; omega); intro v390 w30 ho hb hg hat; rw [← Ny389.out] at ho; replace BK384 := xA (blk_grown (xK BK384.out) hg (Kd.R_ne HO_10.out BK384.out (by decide))); replace HB := xA (hb); have HO391 := xA (ho); clear HO_10; clear ho hb hg hat))
     repeat (go_quiet (first | (go_at_call 342; (with_reducible refine (spec_wdNumber.calls (wrap64 ((wrap64 ((wrap64 (a0_0 * x1_2)) + (wrap64 (a0_1 * x2_2)))) + (wrap64 ((rd l3 x27_2) * (ji19))))) true _ A25.out).mono ?_); rintro e w' ⟨rfl, ⟨nd, rfl⟩⟩; (try exact xD)) | ((with_reducible refine gate_builtin (b := .append) (xs := #[.tmp 74, .tmp 76]) rfl ?_); at_builtin; refine Kd.R_append (Kd.int .i64) (w0 := w) w.heap.size rfl (.tmp 74) (.tmp 76) 24 3 (.int .i64 0) 8 rfl Try.underlying24 info3 rfl (by decide) (by omega) (.slice Ao29 x10_2.length co29) x10_2 (wrap64 ((wrap64 ((wrap64 (a0_0 * x1_2)) + (wrap64 (a0_1 * x2_2)))) + (wrap64 ((rd l3 x27_2) * (ji19))))) [.int .i64 (wrap64 ((wrap64 ((wrap64 (a0_0 * x1_2)) + (wrap64 (a0_1 * x2_2)))) + (wrap64 ((rd l3 x27_2) * (ji19)))))] (fun _ => True) (fun _ => False) rfl rfl ?aP (fun _ hk => hk.elim) ?aF ?aO ?aB ?aS ?aL ?_; (case aP => exact rfl); (case aB => exact (xB1 GE384.out HB.out)); (case aF => exact (fun _ _ => trivial)); (case aO => exact (xR HO_10.out)); (case aS => exact (below_size (xB1 GE384.out HB.out))); (case aL => have := LMc27.out; omega); intro v390 w30 ho hb hg hat; rw [← Ny389.out] at ho; replace BK384 := xA (blk_grown (xK BK384.out) hg (Kd.R_ne HO_10.out BK384.out (by decide))); replace HB := xA (hb); have HO391 := xA (ho); clear HO_10; clear ho hb hg hat)); try go_wp2_with (first | (go_at_call 342; (with_reducible refine (spec_wdNumber.calls (wrap64 ((wrap64 ((wrap64 (a0_0 * x1_2)) + (wrap64 (a0_1 * x2_2)))) + (wrap64 ((rd l3 x27_2) * (ji19))))) true _ A25.out).mono ?_); rintro e w' ⟨rfl, ⟨nd, rfl⟩⟩; (try exact xD)) | ((with_reducible refine gate_builtin (b := .append) (xs := #[.tmp 74, .tmp 76]) rfl ?_); at_builtin; refine Kd.R_append (Kd.int .i64) (w0 := w) w.heap.size rfl (.tmp 74) (.tmp 76) 24 3 (.int .i64 0) 8 rfl Try.underlying24 info3 rfl (by decide) (by omega) (.slice Ao29 x10_2.length co29) x10_2 (wrap64 ((wrap64 ((wrap64 (a0_0 * x1_2)) + (wrap64 (a0_1 * x2_2)))) + (wrap64 ((rd l3 x27_2) * (ji19))))) [.int .i64 (wrap64 ((wrap64 ((wrap64 (a0_0 * x1_2)) + (wrap64 (a0_1 * x2_2)))) + (wrap64 ((rd l3 x27_2) * (ji19)))))] (fun _ => True) (fun _ => False) rfl rfl ?aP (fun _ hk => hk.elim) ?aF ?aO ?aB ?aS ?aL ?_; (case aP => exact rfl); (case aB => exact (xB1 GE384.out HB.out)); (case aF => exact (fun _ _ => trivial)); (case aO => exact (xR HO_10.out)); (case aS => exact (below_size (xB1 GE384.out HB.out))); (case aL => have := LMc27.out; omega); intro v390 w30 ho hb hg hat; rw [← Ny389.out] at ho; replace BK384 := xA (blk_grown (xK BK384.out) hg (Kd.R_ne HO_10.out BK384.out (by decide))); replace HB := xA (hb); have HO391 := xA (ho); clear HO_10; clear ho hb hg hat)))
     go_roundg k2
     case measure => have := HJ4.out; have := HK2.out; omega
     case rel => exact ⟨(wrap64 ((wrap64 ((wrap64 (a0_0 * x1_2)) + (wrap64 (a0_1 * x2_2)))) + (wrap64 ((rd l3 x27_2) * (ji19))))), (x1_2), (y389), (ji19), (wrap64 (x27_2 + 1)), (by first | rfl | (simp; done) | (simp only [← hji19] <;> (first | rfl | simp)) | (simp [*]; done)), xs, (by first | rfl | (simp; done) | (simp only [← hji19] <;> (first | rfl | simp)) | (simp [*]; done)), xs, H', ⟨by have := HJ4.out; have := HK2.out; omega⟩, ⟨xR HO391.out⟩, ⟨xK BK384.out⟩, ⟨xB1 GE384.out HB.out⟩⟩
end Go.Proofs.Ytjplcongellcmaa.PFnPairsRun
