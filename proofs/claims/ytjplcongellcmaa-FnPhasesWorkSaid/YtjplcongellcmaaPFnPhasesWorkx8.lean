/- What each Go function that the statement FnPhasesWork reaches answers, proved call by call. No condition beyond those that the theorems print. (Written by wip/tools/xprint.py of this repo, over the kit's print.) -/
import Derived.Test.YtjplcongellcmaaPFnPhasesWorkx0
import Derived.Test.YtjplcongellcmaaPFnPhasesWorkx1
import Derived.Test.YtjplcongellcmaaPFnPhasesWorkx2
import Derived.Test.YtjplcongellcmaaPFnPhasesWorkx4
import Derived.Test.YtjplcongellcmaaPFnPhasesWorkx5
import Derived.Test.YtjplcongellcmaaPFnPhasesWorkx6
import Derived.Test.YtjplcongellcmaaPFnPhasesWorkx7
namespace Go.Proofs.Ytjplcongellcmaa.PFnPhasesWork
open Go.RowKit Go.Proofs.YtjplcongellcmaaW.PrintWords Go.Proofs.YtjplcongellcmaaW.PrintLast Go.Proofs.YtjplcongellcmaaW.PrintMore
attribute [local go_sem] max2_int min2_int max_two min_two max_three min_three max_four min_four   -- for this text's walks alone
set_option linter.unusedVariables false
set_option linter.unusedSimpArgs false

/-! ### spec_rsByPhases: function 354 -/
mutual
def spec_rsByPhases.l0 : Nat → List Int → Int → Int → List (List Int) → List Int → Int → Int → Option (List Int × Int)
 | 0, _, _, _, _, _, _, _ => none
 | k + 1, x1, x2, x3, x10, x11, x12, x13 => (spec_rsLength.f (x1.length : Int) x2 x3).bind fun t421 => (if x13 < t421 then (if x2 = 0 then (none) else (if 0 ≤ (Int.tmod (wrap64 (x13 * x3)) x2) then (if (Int.tmod (wrap64 (x13 * x3)) x2) < (x10.length : Int) then (spec_rsByPhases.l1 k x1 x2 x3 x10 x11 x12 x13 (wrap64 (Int.tdiv (wrap64 (x13 * x3)) x2)) 0 (rd_L2 x10 (Int.tmod (wrap64 (x13 * x3)) x2)) ((rd_L2 x10 (Int.tmod (wrap64 (x13 * x3)) x2)).length : Int) 0) else (none)) else (none))) else (some (x11, x12)))
def spec_rsByPhases.l1 : Nat → List Int → Int → Int → List (List Int) → List Int → Int → Int → Int → Int → List Int → Int → Int → Option (List Int × Int)
 | 0, _, _, _, _, _, _, _, _, _, _, _, _ => none
 | k + 1, x1, x2, x3, x10, x11, x12, x13, x14, x16, x44, x45, x46 => if x46 < x45 then (if 0 ≤ x46 then (if x46 < (x44.length : Int) then (if x46 > x14 then (if x11.length < 17592186044416 then (spec_rsByPhases.l0 k x1 x2 x3 x10 (x11 ++ [x16]) x12 (wrap64 (x13 + 1))) else (none)) else (if 0 ≤ (wrap64 (x14 - x46)) then (if (wrap64 (x14 - x46)) < (x1.length : Int) then (spec_rsByPhases.l1 k x1 x2 x3 x10 x11 (wrap64 (x12 + 1)) x13 x14 (wrap64 (x16 + (wrap64 ((rd x44 x46) * (rd x1 (wrap64 (x14 - x46))))))) x44 x45 (wrap64 (x46 + 1))) else (none)) else (none))) else (none)) else (none)) else (if x11.length < 17592186044416 then (spec_rsByPhases.l0 k x1 x2 x3 x10 (x11 ++ [x16]) x12 (wrap64 (x13 + 1))) else (none))
end
def spec_rsByPhases.f (k : Nat) (l0 : List Int) (l1 : List Int) (a2 : Int) (a3 : Int) : Option (List Int × Int) := (spec_rsPhases.f k l0 a2).bind fun t418 => (spec_rsByPhases.l0 k l1 a2 a3 t418 ([] : List Int) 0 0)
theorem spec_rsByPhases.mono_l : ∀ k, (∀ y0 y1 y2 y3 y4 y5 y6, LeO (spec_rsByPhases.l0 k y0 y1 y2 y3 y4 y5 y6) (spec_rsByPhases.l0 (k + 1) y0 y1 y2 y3 y4 y5 y6)) ∧ (∀ y0 y1 y2 y3 y4 y5 y6 y7 y8 y9 y10 y11, LeO (spec_rsByPhases.l1 k y0 y1 y2 y3 y4 y5 y6 y7 y8 y9 y10 y11) (spec_rsByPhases.l1 (k + 1) y0 y1 y2 y3 y4 y5 y6 y7 y8 y9 y10 y11))
 | 0 => ⟨fun _ _ _ _ _ _ _ r h => by simp [spec_rsByPhases.l0] at h, fun _ _ _ _ _ _ _ _ _ _ _ _ r h => by simp [spec_rsByPhases.l1] at h⟩
 | k + 1 => by
  obtain ⟨ih0, ih1⟩ := spec_rsByPhases.mono_l k
  have m0 := @spec_rsPhases.mono
  refine ⟨?_, ?_⟩ <;> intros
  ·unfold spec_rsByPhases.l0; exact xM
  ·unfold spec_rsByPhases.l1; exact xM
theorem spec_rsByPhases.mono : ∀ a0 a1 a2 a3 k, LeO (spec_rsByPhases.f k a0 a1 a2 a3) (spec_rsByPhases.f (k + 1) a0 a1 a2 a3) := by
 intro a0 a1 a2 a3 k
 obtain ⟨ih0, ih1⟩ := spec_rsByPhases.mono_l k
 have m0 := @spec_rsPhases.mono
 unfold spec_rsByPhases.f
 exact xM
set_option maxHeartbeats 8000000 in
set_option maxRecDepth 100000 in
theorem spec_rsByPhases.calls (k : Nat) (A0 : Option Addr) (c0 : Nat) (l0 : List Int) (A1 : Option Addr) (c1 : Nat) (l1 : List Int) (a2 : Int) (a3 : Int) (r1 : List Int) (r2 : Int) (w : World) (hr0 : Kd.C (Kd.int .i64) w A0 l0.length l0) (hc0 : l0.length ≤ c0) (hr1 : Kd.C (Kd.int .i64) w A1 l1.length l1) (hc1 : l1.length ≤ c1) (h : spec_rsByPhases.f k l0 l1 a2 a3 = some (r1, r2)) :
  Calls Try.prog 354 #[.slice A0 l0.length c0, .slice A1 l1.length c1, .int .i64 a2, .int .i64 a3] w fun e w' => ∃ v0_ : Value, e = .returned (.tuple #[v0_, .int .i64 r2]) ∧ Kd.R (Kd.int .i64) 3 w' w.heap.size (fun _ => True) v0_ r1 ∧ Below w.heap.size w w' := by
 have HR0 := Aside0.mk hr0
 have HC0 := Aside0.mk hc0
 clear hr0 hc0
 have HR1 := Aside0.mk hr1
 have HC1 := Aside0.mk hc1
 clear hr1 hc1
 have HB := Aside0.mk (Below.refl w.heap.size w)
 have H : ((spec_rsPhases.f k l0 a2).bind fun t418 => (spec_rsByPhases.l0 k l1 a2 a3 t418 ([] : List Int) 0 0)) = some (r1, r2) := h
 clear h
 obtain ⟨t418, A5, H⟩ := xO H
 (try dsimp only at H)
 have H' := Aside0.mk H
 clear H
 go_enter Try.func354, Try.ntmps354
 go_wp2_with (first | (go_at_call 357; (with_reducible refine (spec_rsPhases.calls k _ _ l0 a2 t418 _ ?side1 ?side2 A5.out).mono ?_); (case side1 => exact xC HR0.out); (case side2 => exact HC0.out); rintro e w6 ⟨v419, rfl, ho0, hb⟩; have HO420 := Aside0.mk (Kd.S_lower ho0 (below_size (xB HB.out))); replace HB := Aside0.mk (below_step (xB HB.out) hb); (try clear hb); (try clear hb2); (try clear hk); (try clear hi); (try clear ho0)))
 repeat (go_quiet (first | (go_at_call 357; (with_reducible refine (spec_rsPhases.calls k _ _ l0 a2 t418 _ ?side1 ?side2 A5.out).mono ?_); (case side1 => exact xC HR0.out); (case side2 => exact HC0.out); rintro e w6 ⟨v419, rfl, ho0, hb⟩; have HO420 := Aside0.mk (Kd.S_lower ho0 (below_size (xB HB.out))); replace HB := Aside0.mk (below_step (xB HB.out) hb); (try clear hb); (try clear hb2); (try clear hk); (try clear hi); (try clear ho0))); try go_wp2_with (first | (go_at_call 357; (with_reducible refine (spec_rsPhases.calls k _ _ l0 a2 t418 _ ?side1 ?side2 A5.out).mono ?_); (case side1 => exact xC HR0.out); (case side2 => exact HC0.out); rintro e w6 ⟨v419, rfl, ho0, hb⟩; have HO420 := Aside0.mk (Kd.S_lower ho0 (below_size (xB HB.out))); replace HB := Aside0.mk (below_step (xB HB.out) hb); (try clear hb); (try clear hb2); (try clear hk); (try clear hi); (try clear ho0))))
 go_loopg [11, 12, 13] k (fun kq v11 v12 v13 w' => ∃ (x11_1 : List Int) (x12_1 : Int) (x13_1 : Int), v12 = .int .i64 x12_1 ∧ v13 = .int .i64 x13_1 ∧ Aside0 (spec_rsByPhases.l0 kq l1 a2 a3 t418 x11_1 x12_1 x13_1 = some (r1, r2)) ∧ Aside0 (kq ≤ k) ∧ Aside0 (Kd.S (Kd.slice 3 (Kd.int .i64)) 24 w' w.heap.size (fun k_ => some k_ ≠ (v11 : Value).ownBlock) v419 t418) ∧ Aside0 (Kd.R (Kd.int .i64) 3 w' w.heap.size (fun _ => True) v11 x11_1) ∧ Aside0 (Below w.heap.size w w'))
 case atStart => exact ⟨(([] : List Int)), (0), (0), (by first | rfl | (simp; done) | (simp [*]; done)), (by first | rfl | (simp; done) | (simp [*]; done)), H', ⟨Nat.le_refl _⟩, ⟨by (with_reducible repeat (first | apply Kd.S_alloc | apply Kd.S_drewN | apply Kd.S_drew)); exact Kd.S_mono HO420.out (fun _ hk => (by simp [Value.ownBlock]))⟩, ⟨by first | exact Kd.R_nil _ _ _ _ _ | exact Kd.N_nil _ _ _ _ _ | exact Kd.V_nil _ _ _ _ _ | exact Kd.Q_nil _ _ _ _ _ | exact Kd.S_nil _ _ _ _ _⟩, ⟨xB HB.out⟩⟩
 case round =>
  clear H'
  try clear c1
  obtain ⟨x11_1, x12_1, x13_1, rfl, rfl, HA, HK1, HO_10, HO_11, HB⟩ := hrel
  cases gk with
  | zero => exact absurd HA.out (by simp [spec_rsByPhases.l0])
  | succ k1 =>
   have H := HA.out
   clear HA
   simp only [spec_rsByPhases.l0] at H
   obtain ⟨t421, A7, H⟩ := xO H
   (try dsimp only at H)
   by_cases c8 : x13_1 < t421
   rotate_left
   ·rw [if_neg c8] at H
    have c8b0 : decide (x13_1 < t421) = false := decide_eq_false c8
    clear c8
    simp only [Option.some.injEq, Prod.mk.injEq] at H
    obtain ⟨rfl, rfl⟩ := H
    go_wp2_with (first | (go_at_call 218; (with_reducible refine (spec_rsLength.calls (l1.length : Int) a2 a3 t421 _ A7.out).mono ?_); rintro e w' ⟨rfl, ⟨nd, rfl⟩⟩; (try exact xD)))
    repeat (go_quiet (first | (go_at_call 218; (with_reducible refine (spec_rsLength.calls (l1.length : Int) a2 a3 t421 _ A7.out).mono ?_); rintro e w' ⟨rfl, ⟨nd, rfl⟩⟩; (try exact xD))); try go_wp2_with (first | (go_at_call 218; (with_reducible refine (spec_rsLength.calls (l1.length : Int) a2 a3 t421 _ A7.out).mono ?_); rintro e w' ⟨rfl, ⟨nd, rfl⟩⟩; (try exact xD))))
    go_ret2
    exact ⟨_, by first | rfl | (simp [errW_none, errW_some] <;> rfl) | (simp [*, errW_none, errW_some] <;> rfl), xR HO_11.out, xB HB.out⟩

   rw [if_pos c8] at H
   have c8b0 : decide (x13_1 < t421) = true := decide_eq_true c8
   clear c8
   by_cases c9 : a2 = 0
   ·rw [if_pos c9] at H
    exact absurd H (by simp)
   rw [if_neg c9] at H
   have c9b0 : (a2 == 0) = false := beq_eq_false_iff_ne.mpr c9
   have c9b1 : (a2 != 0) = true := bne_iff_ne.mpr c9
   obtain ⟨ji10, hji10⟩ : ∃ j_ : Int, (Int.tmod (wrap64 (x13_1 * a3)) a2) = j_ := ⟨_, rfl⟩
   replace H : (if 0 ≤ (ji10) then (if (ji10) < (t418.length : Int) then (spec_rsByPhases.l1 k1 l1 a2 a3 t418 x11_1 x12_1 x13_1 (wrap64 (Int.tdiv (wrap64 (x13_1 * a3)) a2)) 0 (rd_L2 t418 (ji10)) ((rd_L2 t418 (ji10)).length : Int) 0) else (none)) else (none)) = some (r1, r2) := by first | (rw [hji10] at H; exact H) | (simp only [hji10] at H ⊢; exact H)
   (try rw [hji10] at A7)
   by_cases c11 : 0 ≤ (ji10)
   rotate_left
   ·rw [if_neg c11] at H
    exact absurd H (by simp)
   rw [if_pos c11] at H
   have c11b0 : decide (0 ≤ (ji10)) = true := decide_eq_true c11
   clear c11
   by_cases c12 : (ji10) < (t418.length : Int)
   rotate_left
   ·rw [if_neg c12] at H
    exact absurd H (by simp)
   rw [if_pos c12] at H
   have c12b0 : decide ((ji10) < (t418.length : Int)) = true := decide_eq_true c12
   clear c12
   have H' := Aside0.mk H
   clear H
   go_wp2_with (first | (go_at_call 218; (with_reducible refine (spec_rsLength.calls (l1.length : Int) a2 a3 t421 _ A7.out).mono ?_); rintro e w' ⟨rfl, ⟨nd, rfl⟩⟩; (try exact xD); obtain ⟨Ao13, co13, eo13⟩ := Kd.S_slice HO_10.out; subst eo13; have p422 : 0 ≤ ((ji10) : Int) := of_decide_eq_true (by first | (with_reducible assumption) | assumption); have q422 : (ji10) < (t418.length : Int) := of_decide_eq_true (by first | (with_reducible assumption) | assumption); obtain ⟨ad422, A422_0, c422_0, e422, hx422_0, hl422_0, hi422_0⟩ := at_L2 (Kd.S_reads' HO_10.out).2.2 (ji10) p422 q422; cases e422; obtain ⟨ce422, hce422, hMe422, hcc422⟩ := Kd.S_get HO_10.out [] (ji10) p422 (by first | exact q422 | exact of_decide_eq_true (by first | (with_reducible assumption) | assumption) | (have e_ := (Kd.S_reads' HO_10.out).1; omega)); obtain ⟨ve422_0, rfl, ge422_0⟩ := hMe422; have hv422_0 := hcc422 0 _ rfl; rw [Nat.add_zero, show ((Kd.slice 3 (Kd.int .i64))).sz = 1 from rfl, Nat.mul_one] at hv422_0; replace hv422_0 := Option.some.inj (hv422_0.symm.trans hx422_0); rw [hv422_0] at ge422_0; have HL422_0 := Aside0.mk (show Kd.R (Kd.int .i64) 3 _ _ _ _ (rd_L2 t418 (ji10)) from ge422_0); clear hv422_0 ge422_0; clear hcc422 hce422; have HR422_0 := Aside0.mk hi422_0; have HC422_0 := Aside0.mk hl422_0; clear hi422_0 hl422_0; replace p422 := eq_true p422; replace q422 := eq_true q422))
   repeat (go_quiet (first | (go_at_call 218; (with_reducible refine (spec_rsLength.calls (l1.length : Int) a2 a3 t421 _ A7.out).mono ?_); rintro e w' ⟨rfl, ⟨nd, rfl⟩⟩; (try exact xD); obtain ⟨Ao13, co13, eo13⟩ := Kd.S_slice HO_10.out; subst eo13; have p422 : 0 ≤ ((ji10) : Int) := of_decide_eq_true (by first | (with_reducible assumption) | assumption); have q422 : (ji10) < (t418.length : Int) := of_decide_eq_true (by first | (with_reducible assumption) | assumption); obtain ⟨ad422, A422_0, c422_0, e422, hx422_0, hl422_0, hi422_0⟩ := at_L2 (Kd.S_reads' HO_10.out).2.2 (ji10) p422 q422; cases e422; obtain ⟨ce422, hce422, hMe422, hcc422⟩ := Kd.S_get HO_10.out [] (ji10) p422 (by first | exact q422 | exact of_decide_eq_true (by first | (with_reducible assumption) | assumption) | (have e_ := (Kd.S_reads' HO_10.out).1; omega)); obtain ⟨ve422_0, rfl, ge422_0⟩ := hMe422; have hv422_0 := hcc422 0 _ rfl; rw [Nat.add_zero, show ((Kd.slice 3 (Kd.int .i64))).sz = 1 from rfl, Nat.mul_one] at hv422_0; replace hv422_0 := Option.some.inj (hv422_0.symm.trans hx422_0); rw [hv422_0] at ge422_0; have HL422_0 := Aside0.mk (show Kd.R (Kd.int .i64) 3 _ _ _ _ (rd_L2 t418 (ji10)) from ge422_0); clear hv422_0 ge422_0; clear hcc422 hce422; have HR422_0 := Aside0.mk hi422_0; have HC422_0 := Aside0.mk hl422_0; clear hi422_0 hl422_0; replace p422 := eq_true p422; replace q422 := eq_true q422)); try go_wp2_with (first | (go_at_call 218; (with_reducible refine (spec_rsLength.calls (l1.length : Int) a2 a3 t421 _ A7.out).mono ?_); rintro e w' ⟨rfl, ⟨nd, rfl⟩⟩; (try exact xD); obtain ⟨Ao13, co13, eo13⟩ := Kd.S_slice HO_10.out; subst eo13; have p422 : 0 ≤ ((ji10) : Int) := of_decide_eq_true (by first | (with_reducible assumption) | assumption); have q422 : (ji10) < (t418.length : Int) := of_decide_eq_true (by first | (with_reducible assumption) | assumption); obtain ⟨ad422, A422_0, c422_0, e422, hx422_0, hl422_0, hi422_0⟩ := at_L2 (Kd.S_reads' HO_10.out).2.2 (ji10) p422 q422; cases e422; obtain ⟨ce422, hce422, hMe422, hcc422⟩ := Kd.S_get HO_10.out [] (ji10) p422 (by first | exact q422 | exact of_decide_eq_true (by first | (with_reducible assumption) | assumption) | (have e_ := (Kd.S_reads' HO_10.out).1; omega)); obtain ⟨ve422_0, rfl, ge422_0⟩ := hMe422; have hv422_0 := hcc422 0 _ rfl; rw [Nat.add_zero, show ((Kd.slice 3 (Kd.int .i64))).sz = 1 from rfl, Nat.mul_one] at hv422_0; replace hv422_0 := Option.some.inj (hv422_0.symm.trans hx422_0); rw [hv422_0] at ge422_0; have HL422_0 := Aside0.mk (show Kd.R (Kd.int .i64) 3 _ _ _ _ (rd_L2 t418 (ji10)) from ge422_0); clear hv422_0 ge422_0; clear hcc422 hce422; have HR422_0 := Aside0.mk hi422_0; have HC422_0 := Aside0.mk hl422_0; clear hi422_0 hl422_0; replace p422 := eq_true p422; replace q422 := eq_true q422)))
   go_loopg [12, 16, 46] k1 (fun kq v12 v16 v46 w' => ∃ (x12_2 : Int) (x16_2 : Int) (x46_2 : Int), v12 = .int .i64 x12_2 ∧ v16 = .int .i64 x16_2 ∧ v46 = .int .i64 x46_2 ∧ Aside0 (spec_rsByPhases.l1 kq l1 a2 a3 t418 x11_1 x12_2 x13_1 (wrap64 (Int.tdiv (wrap64 (x13_1 * a3)) a2)) x16_2 (rd_L2 t418 (ji10)) ((rd_L2 t418 (ji10)).length : Int) x46_2 = some (r1, r2)) ∧ Aside0 (kq ≤ k1) ∧ Aside0 (Kd.S (Kd.slice 3 (Kd.int .i64)) 24 w' w.heap.size (fun k_ => some k_ ≠ (u11 : Value).ownBlock) (.slice (some ad422) t418.length co13) t418) ∧ Aside0 (Kd.R (Kd.int .i64) 3 w' w.heap.size (fun _ => True) u11 x11_1) ∧ Aside0 (Kd.C (Kd.int .i64) w' A422_0 (rd_L2 t418 (ji10)).length (rd_L2 t418 (ji10))) ∧ Aside0 (Below w.heap.size w w'))
   case atStart => exact ⟨(x12_1), (0), (0), (by first | rfl | (simp; done) | (simp [*]; done)), (by first | rfl | (simp; done) | (simp [*]; done)), (by first | rfl | (simp; done) | (simp [*]; done)), H', ⟨Nat.le_refl _⟩, ⟨xS HO_10.out⟩, ⟨xR HO_11.out⟩, ⟨by repeat (first | (with_reducible exact HR422_0.out) | (with_reducible refine Kd.C_alloc ?_ _) | (with_reducible refine Kd.C_drewN ?_ _) | (with_reducible refine Kd.C_drew ?_) | exact HR422_0.out)⟩, ⟨xB HB.out⟩⟩
   case round =>
    clear H'
    try clear c8b0
    try clear c9
    try clear c9b0
    try clear c9b1
    try clear c11b0
    try clear c12b0
    try clear hx422_0
    try clear p422
    try clear q422
    obtain ⟨x12_2, x16_2, x46_2, rfl, rfl, rfl, HA, HK2, HO_10, HO_11, HR422_0, HB⟩ := hrel
    cases gk with
    | zero => exact absurd HA.out (by simp [spec_rsByPhases.l1])
    | succ k2 =>
     have H := HA.out
     clear HA
     simp only [spec_rsByPhases.l1] at H
     by_cases c14 : x46_2 < ((rd_L2 t418 (ji10)).length : Int)
     rotate_left
     ·rw [if_neg c14] at H
      have c14b0 : decide (x46_2 < ((rd_L2 t418 (ji10)).length : Int)) = false := decide_eq_false c14
      clear c14
      by_cases c23 : x11_1.length < 17592186044416
      rotate_left
      ·rw [if_neg c23] at H
       exact absurd H (by simp)
      rw [if_pos c23] at H
      have LMc23 := Aside0.mk c23
      clear c23
      obtain ⟨y428, hy428⟩ : ∃ y_ : List Int, y_ = (x11_1 ++ [x16_2]) := ⟨_, rfl⟩
      replace H : (spec_rsByPhases.l0 k2 l1 a2 a3 t418 y428 x12_2 (wrap64 (x13_1 + 1))) = some (r1, r2) := by first | (rw [hy428]; with_reducible exact H) | (have H2_ := (Option.bind_some _ _).symm.trans H; rw [hy428]; with_reducible exact H2_) | (have H2_ := (Option.bind_some _ _).symm.trans H; with_reducible exact H2_) | with_reducible exact H | (rw [hy428]; exact H) | exact H
      have Ny428 := Aside0.mk hy428
      clear hy428
      have H' := Aside0.mk H
      clear H
      go_wp2_with (first | ((with_reducible refine gate_builtin (b := .append) (xs := #[.tmp 67, .tmp 69]) rfl ?_); at_builtin; refine Kd.R_append (Kd.int .i64) (w0 := w) w.heap.size rfl (.tmp 67) (.tmp 69) 24 3 (.int .i64 0) 8 rfl Try.underlying24 info3 rfl (by decide) (by omega) u11 x11_1 x16_2 [.int .i64 x16_2] (fun _ => True) (fun _ => False) rfl rfl ?aP (fun _ hk => hk.elim) ?aF ?aO ?aB ?aS ?aL ?_; (case aP => exact rfl); (case aB => exact (xB HB.out)); (case aF => exact (fun _ _ => trivial)); (case aO => exact (xR HO_11.out)); (case aS => exact (below_size (xB HB.out))); (case aL => have := LMc23.out; omega); intro v429 w24 ho hb hg hat; rw [← Ny428.out] at ho; replace HO_10 := Aside0.mk (Kd.S_after (ok := (fun _ => True)) (by (with_reducible repeat (first | apply Kd.S_alloc | apply Kd.S_drewN | apply Kd.S_drew)); exact Kd.S_mono HO_10.out (fun _ hk => ⟨trivial, hk⟩)) hg hat); replace HB := Aside0.mk (hb); have HO430 := Aside0.mk (ho); clear HO_11; clear ho hb hg hat))
      repeat (go_quiet (first | ((with_reducible refine gate_builtin (b := .append) (xs := #[.tmp 67, .tmp 69]) rfl ?_); at_builtin; refine Kd.R_append (Kd.int .i64) (w0 := w) w.heap.size rfl (.tmp 67) (.tmp 69) 24 3 (.int .i64 0) 8 rfl Try.underlying24 info3 rfl (by decide) (by omega) u11 x11_1 x16_2 [.int .i64 x16_2] (fun _ => True) (fun _ => False) rfl rfl ?aP (fun _ hk => hk.elim) ?aF ?aO ?aB ?aS ?aL ?_; (case aP => exact rfl); (case aB => exact (xB HB.out)); (case aF => exact (fun _ _ => trivial)); (case aO => exact (xR HO_11.out)); (case aS => exact (below_size (xB HB.out))); (case aL => have := LMc23.out; omega); intro v429 w24 ho hb hg hat; rw [← Ny428.out] at ho; replace HO_10 := Aside0.mk (Kd.S_after (ok := (fun _ => True)) (by (with_reducible repeat (first | apply Kd.S_alloc | apply Kd.S_drewN | apply Kd.S_drew)); exact Kd.S_mono HO_10.out (fun _ hk => ⟨trivial, hk⟩)) hg hat); replace HB := Aside0.mk (hb); have HO430 := Aside0.mk (ho); clear HO_11; clear ho hb hg hat)); try go_wp2_with (first | ((with_reducible refine gate_builtin (b := .append) (xs := #[.tmp 67, .tmp 69]) rfl ?_); at_builtin; refine Kd.R_append (Kd.int .i64) (w0 := w) w.heap.size rfl (.tmp 67) (.tmp 69) 24 3 (.int .i64 0) 8 rfl Try.underlying24 info3 rfl (by decide) (by omega) u11 x11_1 x16_2 [.int .i64 x16_2] (fun _ => True) (fun _ => False) rfl rfl ?aP (fun _ hk => hk.elim) ?aF ?aO ?aB ?aS ?aL ?_; (case aP => exact rfl); (case aB => exact (xB HB.out)); (case aF => exact (fun _ _ => trivial)); (case aO => exact (xR HO_11.out)); (case aS => exact (below_size (xB HB.out))); (case aL => have := LMc23.out; omega); intro v429 w24 ho hb hg hat; rw [← Ny428.out] at ho; replace HO_10 := Aside0.mk (Kd.S_after (ok := (fun _ => True)) (by (with_reducible repeat (first | apply Kd.S_alloc | apply Kd.S_drewN | apply Kd.S_drew)); exact Kd.S_mono HO_10.out (fun _ hk => ⟨trivial, hk⟩)) hg hat); replace HB := Aside0.mk (hb); have HO430 := Aside0.mk (ho); clear HO_11; clear ho hb hg hat)))
      go_roundg k2
      case measure => have := HK1.out; have := HK2.out; omega
      case rel => exact ⟨(y428), (x12_2), (wrap64 (x13_1 + 1)), (by first | rfl | (simp; done) | (simp [*]; done)), (by first | rfl | (simp; done) | (simp [*]; done)), H', ⟨by have := HK1.out; have := HK2.out; omega⟩, ⟨by (with_reducible repeat (first | apply Kd.S_alloc | apply Kd.S_drewN | apply Kd.S_drew)); exact Kd.S_mono HO_10.out (fun _ hk => hk.2)⟩, ⟨xR HO430.out⟩, ⟨xB HB.out⟩⟩
     rw [if_pos c14] at H
     have c14b0 : decide (x46_2 < ((rd_L2 t418 (ji10)).length : Int)) = true := decide_eq_true c14
     clear c14
     by_cases c15 : 0 ≤ x46_2
     rotate_left
     ·rw [if_neg c15] at H
      exact absurd H (by simp)
     rw [if_pos c15] at H
     have c15b0 : decide (0 ≤ x46_2) = true := decide_eq_true c15
     clear c15
     by_cases c16 : x46_2 < ((rd_L2 t418 (ji10)).length : Int)
     rotate_left
     ·rw [if_neg c16] at H
      exact absurd H (by simp)
     rw [if_pos c16] at H
     have c16b0 : decide (x46_2 < ((rd_L2 t418 (ji10)).length : Int)) = true := decide_eq_true c16
     clear c16
     by_cases c17 : x46_2 > (wrap64 (Int.tdiv (wrap64 (x13_1 * a3)) a2))
     ·rw [if_pos c17] at H
      have c17b0 : decide ((wrap64 (Int.tdiv (wrap64 (x13_1 * a3)) a2)) < x46_2) = true := decide_eq_true c17
      clear c17
      by_cases c18 : x11_1.length < 17592186044416
      rotate_left
      ·rw [if_neg c18] at H
       exact absurd H (by simp)
      rw [if_pos c18] at H
      have LMc18 := Aside0.mk c18
      clear c18
      obtain ⟨y424, hy424⟩ : ∃ y_ : List Int, y_ = (x11_1 ++ [x16_2]) := ⟨_, rfl⟩
      replace H : (spec_rsByPhases.l0 k2 l1 a2 a3 t418 y424 x12_2 (wrap64 (x13_1 + 1))) = some (r1, r2) := by first | (rw [hy424]; with_reducible exact H) | (have H2_ := (Option.bind_some _ _).symm.trans H; rw [hy424]; with_reducible exact H2_) | (have H2_ := (Option.bind_some _ _).symm.trans H; with_reducible exact H2_) | with_reducible exact H | (rw [hy424]; exact H) | exact H
      have Ny424 := Aside0.mk hy424
      clear hy424
      have H' := Aside0.mk H
      clear H
      have p423 : 0 ≤ (x46_2 : Int) := of_decide_eq_true (by first | (with_reducible assumption) | assumption)
      have q423 : x46_2 < ((rd_L2 t418 (ji10)).length : Int) := of_decide_eq_true (by first | (with_reducible assumption) | assumption | (rw [← hji10]; first | (with_reducible assumption) | assumption))
      obtain ⟨ad423, e423, hx423_0⟩ := Kd.at_int HR422_0.out x46_2 p423 q423
      cases e423
      (try replace hx423_0 := (HB.out.cell (World.block_lt_of_cell? w _ hx423_0)).trans hx423_0)
      replace p423 := eq_true p423
      replace q423 := eq_true q423
      go_wp2_with (first | ((with_reducible refine gate_builtin (b := .append) (xs := #[.tmp 67, .tmp 69]) rfl ?_); at_builtin; refine Kd.R_append (Kd.int .i64) (w0 := w) w.heap.size rfl (.tmp 67) (.tmp 69) 24 3 (.int .i64 0) 8 rfl Try.underlying24 info3 rfl (by decide) (by omega) u11 x11_1 x16_2 [.int .i64 x16_2] (fun _ => True) (fun _ => False) rfl rfl ?aP (fun _ hk => hk.elim) ?aF ?aO ?aB ?aS ?aL ?_; (case aP => exact rfl); (case aB => exact (xB HB.out)); (case aF => exact (fun _ _ => trivial)); (case aO => exact (xR HO_11.out)); (case aS => exact (below_size (xB HB.out))); (case aL => have := LMc18.out; omega); intro v425 w19 ho hb hg hat; rw [← Ny424.out] at ho; replace HO_10 := Aside0.mk (Kd.S_after (ok := (fun _ => True)) (by (with_reducible repeat (first | apply Kd.S_alloc | apply Kd.S_drewN | apply Kd.S_drew)); exact Kd.S_mono HO_10.out (fun _ hk => ⟨trivial, hk⟩)) hg hat); replace HB := Aside0.mk (hb); have HO426 := Aside0.mk (ho); clear HO_11; clear ho hb hg hat))
      repeat (go_quiet (first | ((with_reducible refine gate_builtin (b := .append) (xs := #[.tmp 67, .tmp 69]) rfl ?_); at_builtin; refine Kd.R_append (Kd.int .i64) (w0 := w) w.heap.size rfl (.tmp 67) (.tmp 69) 24 3 (.int .i64 0) 8 rfl Try.underlying24 info3 rfl (by decide) (by omega) u11 x11_1 x16_2 [.int .i64 x16_2] (fun _ => True) (fun _ => False) rfl rfl ?aP (fun _ hk => hk.elim) ?aF ?aO ?aB ?aS ?aL ?_; (case aP => exact rfl); (case aB => exact (xB HB.out)); (case aF => exact (fun _ _ => trivial)); (case aO => exact (xR HO_11.out)); (case aS => exact (below_size (xB HB.out))); (case aL => have := LMc18.out; omega); intro v425 w19 ho hb hg hat; rw [← Ny424.out] at ho; replace HO_10 := Aside0.mk (Kd.S_after (ok := (fun _ => True)) (by (with_reducible repeat (first | apply Kd.S_alloc | apply Kd.S_drewN | apply Kd.S_drew)); exact Kd.S_mono HO_10.out (fun _ hk => ⟨trivial, hk⟩)) hg hat); replace HB := Aside0.mk (hb); have HO426 := Aside0.mk (ho); clear HO_11; clear ho hb hg hat)); try go_wp2_with (first | ((with_reducible refine gate_builtin (b := .append) (xs := #[.tmp 67, .tmp 69]) rfl ?_); at_builtin; refine Kd.R_append (Kd.int .i64) (w0 := w) w.heap.size rfl (.tmp 67) (.tmp 69) 24 3 (.int .i64 0) 8 rfl Try.underlying24 info3 rfl (by decide) (by omega) u11 x11_1 x16_2 [.int .i64 x16_2] (fun _ => True) (fun _ => False) rfl rfl ?aP (fun _ hk => hk.elim) ?aF ?aO ?aB ?aS ?aL ?_; (case aP => exact rfl); (case aB => exact (xB HB.out)); (case aF => exact (fun _ _ => trivial)); (case aO => exact (xR HO_11.out)); (case aS => exact (below_size (xB HB.out))); (case aL => have := LMc18.out; omega); intro v425 w19 ho hb hg hat; rw [← Ny424.out] at ho; replace HO_10 := Aside0.mk (Kd.S_after (ok := (fun _ => True)) (by (with_reducible repeat (first | apply Kd.S_alloc | apply Kd.S_drewN | apply Kd.S_drew)); exact Kd.S_mono HO_10.out (fun _ hk => ⟨trivial, hk⟩)) hg hat); replace HB := Aside0.mk (hb); have HO426 := Aside0.mk (ho); clear HO_11; clear ho hb hg hat)))
      go_roundg k2
      case measure => have := HK1.out; have := HK2.out; omega
      case rel => exact ⟨(y424), (x12_2), (wrap64 (x13_1 + 1)), (by first | rfl | (simp; done) | (simp [*]; done)), (by first | rfl | (simp; done) | (simp [*]; done)), H', ⟨by have := HK1.out; have := HK2.out; omega⟩, ⟨by (with_reducible repeat (first | apply Kd.S_alloc | apply Kd.S_drewN | apply Kd.S_drew)); exact Kd.S_mono HO_10.out (fun _ hk => hk.2)⟩, ⟨xR HO426.out⟩, ⟨xB HB.out⟩⟩
     rw [if_neg c17] at H
     have c17b0 : decide ((wrap64 (Int.tdiv (wrap64 (x13_1 * a3)) a2)) < x46_2) = false := decide_eq_false c17
     clear c17
     obtain ⟨ji20, hji20⟩ : ∃ j_ : Int, (wrap64 ((wrap64 (Int.tdiv (wrap64 (x13_1 * a3)) a2)) - x46_2)) = j_ := ⟨_, rfl⟩
     replace H : (if 0 ≤ (ji20) then (if (ji20) < (l1.length : Int) then (spec_rsByPhases.l1 k2 l1 a2 a3 t418 x11_1 (wrap64 (x12_2 + 1)) x13_1 (wrap64 (Int.tdiv (wrap64 (x13_1 * a3)) a2)) (wrap64 (x16_2 + (wrap64 ((rd (rd_L2 t418 (ji10)) x46_2) * (rd l1 (ji20)))))) (rd_L2 t418 (ji10)) ((rd_L2 t418 (ji10)).length : Int) (wrap64 (x46_2 + 1))) else (none)) else (none)) = some (r1, r2) := by first | (rw [hji20] at H; exact H) | (simp only [hji20] at H ⊢; exact H)
     have hji20w : (IntKind.i64.wrap ((wrap64 (Int.tdiv (wrap64 (x13_1 * a3)) a2)) - x46_2)) = ji20 := (i64_w _).trans hji20
     by_cases c21 : 0 ≤ (ji20)
     rotate_left
     ·rw [if_neg c21] at H
      exact absurd H (by simp)
     rw [if_pos c21] at H
     have c21b0 : decide (0 ≤ (ji20)) = true := decide_eq_true c21
     clear c21
     by_cases c22 : (ji20) < (l1.length : Int)
     rotate_left
     ·rw [if_neg c22] at H
      exact absurd H (by simp)
     rw [if_pos c22] at H
     have c22b0 : decide ((ji20) < (l1.length : Int)) = true := decide_eq_true c22
     clear c22
     have H' := Aside0.mk H
     clear H
     have p423 : 0 ≤ (x46_2 : Int) := of_decide_eq_true (by first | (with_reducible assumption) | assumption)
     have q423 : x46_2 < ((rd_L2 t418 (ji10)).length : Int) := of_decide_eq_true (by first | (with_reducible assumption) | assumption | (rw [← hji10]; first | (with_reducible assumption) | assumption))
     obtain ⟨ad423, e423, hx423_0⟩ := Kd.at_int HR422_0.out x46_2 p423 q423
     cases e423
     (try replace hx423_0 := (HB.out.cell (World.block_lt_of_cell? w _ hx423_0)).trans hx423_0)
     replace p423 := eq_true p423
     replace q423 := eq_true q423
     have p427 : 0 ≤ ((ji20) : Int) := of_decide_eq_true (by first | (with_reducible assumption) | assumption | (rw [← hji20]; first | (with_reducible assumption) | assumption))
     have q427 : (ji20) < (l1.length : Int) := of_decide_eq_true (by first | (with_reducible assumption) | assumption | (rw [← hji20]; first | (with_reducible assumption) | assumption))
     obtain ⟨ad427, e427, hx427_0⟩ := Kd.at_int HR1.out (ji20) p427 q427
     cases e427
     replace hx427_0 := (HB.out.cell (World.block_lt_of_cell? w _ hx427_0)).trans hx427_0
     replace p427 := eq_true p427
     replace q427 := eq_true q427
     go_wp2
     repeat (go_quiet (fail); try go_wp2)
     go_roundg k2
     case measure => have := HK1.out; have := HK2.out; omega
     case rel => exact ⟨(wrap64 (x12_2 + 1)), (wrap64 (x16_2 + (wrap64 ((rd (rd_L2 t418 (ji10)) x46_2) * (rd l1 (ji20)))))), (wrap64 (x46_2 + 1)), (by first | rfl | (simp; done) | (simp [*]; done)), (by first | rfl | (simp; done) | (simp only [← hji10, ← hji20] <;> (first | rfl | simp)) | (simp [*]; done)), (by first | rfl | (simp; done) | (simp [*]; done)), H', ⟨by have := HK1.out; have := HK2.out; omega⟩, ⟨xS HO_10.out⟩, ⟨xR HO_11.out⟩, ⟨by repeat (first | (with_reducible exact HR422_0.out) | (with_reducible refine Kd.C_alloc ?_ _) | (with_reducible refine Kd.C_drewN ?_ _) | (with_reducible refine Kd.C_drew ?_) | exact HR422_0.out)⟩, ⟨xB HB.out⟩⟩
/-! ### spec_ByPhases: function 162 -/
def spec_ByPhases.f (k : Nat) (l0 : List Int) (l1 : List Int) (a2 : Int) (a3 : Int) : Option (List Int × Bool) := (spec_rsAsked.f k l0 l1 a2 a3).bind fun t431 => (if t431 = true then ((spec_rsByPhases.f k l0 l1 a2 a3).bind fun bt432 => ((spec_wdIf.f k bt432.1).bind fun bt436 => (some (bt436.1, bt436.2)))) else (some (([] : List Int), false)))
theorem spec_ByPhases.mono : ∀ a0 a1 a2 a3 k, LeO (spec_ByPhases.f k a0 a1 a2 a3) (spec_ByPhases.f (k + 1) a0 a1 a2 a3) := by
 intro a0 a1 a2 a3 k
 have m0 := @spec_rsAsked.mono
 have m1 := @spec_rsByPhases.mono
 have m2 := @spec_wdIf.mono
 unfold spec_ByPhases.f
 exact xM
set_option maxHeartbeats 8000000 in
set_option maxRecDepth 100000 in
theorem spec_ByPhases.calls (k : Nat) (A0 : Option Addr) (c0 : Nat) (l0 : List Int) (A1 : Option Addr) (c1 : Nat) (l1 : List Int) (a2 : Int) (a3 : Int) (r1 : List Int) (r2 : Bool) (w : World) (hr0 : Kd.C (Kd.int .i64) w A0 l0.length l0) (hc0 : l0.length ≤ c0) (hr1 : Kd.C (Kd.int .i64) w A1 l1.length l1) (hc1 : l1.length ≤ c1) (h : spec_ByPhases.f k l0 l1 a2 a3 = some (r1, r2)) :
  Calls Try.prog 162 #[.slice A0 l0.length c0, .slice A1 l1.length c1, .int .i64 a2, .int .i64 a3] w fun e w' => ∃ v0_ : Value, e = .returned (.tuple #[v0_, .bool r2]) ∧ Kd.R (Kd.int .i64) 3 w' w.heap.size (fun _ => True) v0_ r1 ∧ Below w.heap.size w w' := by
 have HR0 := Aside0.mk hr0
 have HC0 := Aside0.mk hc0
 clear hr0 hc0
 have HR1 := Aside0.mk hr1
 have HC1 := Aside0.mk hc1
 clear hr1 hc1
 have HB := Aside0.mk (Below.refl w.heap.size w)
 have H : ((spec_rsAsked.f k l0 l1 a2 a3).bind fun t431 => (if t431 = true then ((spec_rsByPhases.f k l0 l1 a2 a3).bind fun bt432 => ((spec_wdIf.f k bt432.1).bind fun bt436 => (some (bt436.1, bt436.2)))) else (some (([] : List Int), false)))) = some (r1, r2) := h
 clear h
 obtain ⟨t431, A5, H⟩ := xO H
 (try dsimp only at H)
 by_cases c6 : t431 = true
 rotate_left
 ·replace c6 := Bool.eq_false_iff.mpr c6
  subst c6
  rw [if_neg (show ¬ (false = true) by decide)] at H
  simp only [Option.some.injEq, Prod.mk.injEq] at H
  obtain ⟨rfl, rfl⟩ := H
  go_enter Try.func162, Try.ntmps162
  go_wp2_with (first | (refine xG (some 16) Try.func351 #[.slice A0 l0.length c0, .slice A1 l1.length c1, .int .i64 a2, .int .i64 a3] ?_; (with_reducible refine (spec_rsAsked.calls k _ _ l0 _ _ l1 a2 a3 false _ ?side1 ?side2 ?side3 ?side4 A5.out).mono ?_); (case side1 => exact xC HR0.out); (case side2 => exact HC0.out); (case side3 => exact xC HR1.out); (case side4 => exact HC1.out); rintro e w' ⟨rfl, ⟨nd, rfl⟩⟩; refine ⟨_, rfl, ?_⟩))
  go_ret2
  exact ⟨_, by first | rfl | (simp [errW_none, errW_some] <;> rfl) | (simp [*, errW_none, errW_some] <;> rfl), by first | exact Kd.R_nil _ _ _ _ _ | exact Kd.N_nil _ _ _ _ _ | exact Kd.V_nil _ _ _ _ _ | exact Kd.Q_nil _ _ _ _ _ | exact Kd.S_nil _ _ _ _ _, xB HB.out⟩

 subst c6
 rw [if_pos rfl] at H
 replace H := Option.bind_eq_some_iff.mp H
 obtain ⟨⟨t432, t433⟩, A70, H⟩ := H
 (try dsimp only at H)
 have A7 := Aside0.mk A70
 clear A70
 replace H := Option.bind_eq_some_iff.mp H
 obtain ⟨⟨t436, t439⟩, A80, H⟩ := H
 (try dsimp only at H)
 have A8 := Aside0.mk A80
 clear A80
 simp only [Option.some.injEq, Prod.mk.injEq] at H
 obtain ⟨rfl, rfl⟩ := H
 go_enter Try.func162, Try.ntmps162
 go_wp2_with (first | (refine xG (some 16) Try.func351 #[.slice A0 l0.length c0, .slice A1 l1.length c1, .int .i64 a2, .int .i64 a3] ?_; (with_reducible refine (spec_rsAsked.calls k _ _ l0 _ _ l1 a2 a3 true _ ?side1 ?side2 ?side3 ?side4 A5.out).mono ?_); (case side1 => exact xC HR0.out); (case side2 => exact HC0.out); (case side3 => exact xC HR1.out); (case side4 => exact HC1.out); rintro e w' ⟨rfl, ⟨nd, rfl⟩⟩; refine ⟨_, rfl, ?_⟩) | (refine xG (some 23) Try.func354 #[.slice A0 l0.length c0, .slice A1 l1.length c1, .int .i64 a2, .int .i64 a3] ?_; (with_reducible refine (spec_rsByPhases.calls k _ _ l0 _ _ l1 a2 a3 t432 t433 _ ?side1 ?side2 ?side3 ?side4 A7.out).mono ?_); (case side1 => exact xC HR0.out); (case side2 => exact HC0.out); (case side3 => exact xC HR1.out); (case side4 => exact HC1.out); rintro e w9 ⟨v434, rfl, ho0, hb⟩; refine ⟨_, rfl, ?_⟩; have HO435 := Aside0.mk (Kd.R_lower ho0 (below_size (xB HB.out))); replace HB := Aside0.mk (below_step (xB HB.out) hb); (try clear hb); (try clear hb2); (try clear hk); (try clear hi); (try clear ho0); obtain ⟨Ao10, co10, eo10⟩ := Kd.R_slice HO435.out; subst eo10) | (refine xG (some 27) Try.func219 #[.slice Ao10 t432.length co10] ?_; (with_reducible refine (spec_wdIf.calls k (fun k_ => some k_ = (.slice Ao10 t432.length co10 : Value).ownBlock) (.slice Ao10 t432.length co10) t432 t436 t439 w _ ?side1 ?side2 A8.out).mono ?_); (case side1 => repeat (first | (with_reducible first | exact HB.out | apply below_alloc | apply pw_below_drewN | apply below_drew1) | exact HB.out)); (case side2 => exact Kd.R_tight rfl HO435.out); rintro e w11 ⟨v437, rfl, ho0, hb, hkp⟩; refine ⟨_, rfl, ?_⟩; have HO438 := Aside0.mk (Kd.R_mono (ok' := fun k_ => True) ho0 (fun k_ hk_ => trivial)); replace HB := Aside0.mk (hb); clear HO435; (try clear hb); (try clear hkp); (try clear ho0)))
 go_ret2
 exact ⟨_, by first | rfl | (simp [errW_none, errW_some] <;> rfl) | (simp [*, errW_none, errW_some] <;> rfl), xR HO438.out, xB HB.out⟩
/-! ### impl_isProducts: function 355 -/
def impl_isProducts.f (k : Nat) (l0 : List Int) (a1 : Int) (a2 : Int) (a3 : Int) : Option (Bool) := (impl_isWeights.f k l0).bind fun t440 => (if t440 = true then ((impl_in.f a1 0 64).bind fun t441 => (if t441 = true then ((impl_isRatio.f a2 a3).bind fun t442 => (if t442 = true then (some (decide ((wrap64 (a1 * a2)) ≤ 64))) else (some false))) else (some false))) else (some false))
theorem impl_isProducts.mono : ∀ a0 a1 a2 a3 k, LeO (impl_isProducts.f k a0 a1 a2 a3) (impl_isProducts.f (k + 1) a0 a1 a2 a3) := by
 intro a0 a1 a2 a3 k
 have m0 := @impl_isWeights.mono
 unfold impl_isProducts.f
 exact xM
set_option maxHeartbeats 8000000 in
set_option maxRecDepth 100000 in
theorem impl_isProducts.calls (k : Nat) (A0 : Option Addr) (c0 : Nat) (l0 : List Int) (a1 : Int) (a2 : Int) (a3 : Int) (r : Bool) (w : World) (hr0 : Kd.C (Kd.int .i64) w A0 l0.length l0) (hc0 : l0.length ≤ c0) (h : impl_isProducts.f k l0 a1 a2 a3 = some r) :
  Calls Try.prog 355 #[.slice A0 l0.length c0, .int .i64 a1, .int .i64 a2, .int .i64 a3] w fun e w' => e = .returned (.bool r) ∧ Drawn0 w w' := by
 have HR0 := Aside0.mk hr0
 have HC0 := Aside0.mk hc0
 clear hr0 hc0
 have H : ((impl_isWeights.f k l0).bind fun t440 => (if t440 = true then ((impl_in.f a1 0 64).bind fun t441 => (if t441 = true then ((impl_isRatio.f a2 a3).bind fun t442 => (if t442 = true then (some (decide ((wrap64 (a1 * a2)) ≤ 64))) else (some false))) else (some false))) else (some false))) = some r := h
 clear h
 obtain ⟨t440, A5, H⟩ := xO H
 (try dsimp only at H)
 by_cases c6 : t440 = true
 rotate_left
 ·replace c6 := Bool.eq_false_iff.mpr c6
  subst c6
  rw [if_neg (show ¬ (false = true) by decide)] at H
  obtain rfl := Option.some.inj H
  go_enter Try.func355, Try.ntmps355
  go_wp2_with (first | (refine xG (some 10) Try.func259 #[.slice A0 l0.length c0] ?_; (with_reducible refine (impl_isWeights.calls k _ _ l0 false _ ?side1 ?side2 A5.out).mono ?_); (case side1 => exact xC HR0.out); (case side2 => exact HC0.out); rintro e w' ⟨rfl, ⟨nd, rfl⟩⟩; refine ⟨_, rfl, ?_⟩))
  go_ret
  exact ⟨by first | rfl | (simp; done) | (simp [*]; done), by repeat (first | exact Drawn0.refl _ | apply Drawn0.step)⟩

 subst c6
 rw [if_pos rfl] at H
 obtain ⟨t441, A7, H⟩ := xO H
 (try dsimp only at H)
 by_cases c8 : t441 = true
 rotate_left
 ·replace c8 := Bool.eq_false_iff.mpr c8
  subst c8
  rw [if_neg (show ¬ (false = true) by decide)] at H
  obtain rfl := Option.some.inj H
  go_enter Try.func355, Try.ntmps355
  go_wp2_with (first | (refine xG (some 10) Try.func259 #[.slice A0 l0.length c0] ?_; (with_reducible refine (impl_isWeights.calls k _ _ l0 true _ ?side1 ?side2 A5.out).mono ?_); (case side1 => exact xC HR0.out); (case side2 => exact HC0.out); rintro e w' ⟨rfl, ⟨nd, rfl⟩⟩; refine ⟨_, rfl, ?_⟩) | (go_at_call 223; (with_reducible refine (impl_in.calls a1 0 64 false _ A7.out).mono ?_); rintro e w' ⟨rfl, ⟨nd, rfl⟩⟩))
  go_ret
  exact ⟨by first | rfl | (simp; done) | (simp [*]; done), by repeat (first | exact Drawn0.refl _ | apply Drawn0.step)⟩
 subst c8
 rw [if_pos rfl] at H
 obtain ⟨t442, A9, H⟩ := xO H
 (try dsimp only at H)
 by_cases c10 : t442 = true
 ·subst c10
  rw [if_pos rfl] at H
  obtain rfl := Option.some.inj H
  go_enter Try.func355, Try.ntmps355
  go_wp2_with (first | (refine xG (some 10) Try.func259 #[.slice A0 l0.length c0] ?_; (with_reducible refine (impl_isWeights.calls k _ _ l0 true _ ?side1 ?side2 A5.out).mono ?_); (case side1 => exact xC HR0.out); (case side2 => exact HC0.out); rintro e w' ⟨rfl, ⟨nd, rfl⟩⟩; refine ⟨_, rfl, ?_⟩) | (go_at_call 223; (with_reducible refine (impl_in.calls a1 0 64 true _ A7.out).mono ?_); rintro e w' ⟨rfl, ⟨nd, rfl⟩⟩) | (go_at_call 224; (with_reducible refine (impl_isRatio.calls a2 a3 true _ A9.out).mono ?_); rintro e w' ⟨rfl, ⟨nd, rfl⟩⟩))
  go_ret
  exact ⟨by first | rfl | (simp; done) | (simp [*]; done), by repeat (first | exact Drawn0.refl _ | apply Drawn0.step)⟩
 replace c10 := Bool.eq_false_iff.mpr c10
 subst c10
 rw [if_neg (show ¬ (false = true) by decide)] at H
 obtain rfl := Option.some.inj H
 go_enter Try.func355, Try.ntmps355
 go_wp2_with (first | (refine xG (some 10) Try.func259 #[.slice A0 l0.length c0] ?_; (with_reducible refine (impl_isWeights.calls k _ _ l0 true _ ?side1 ?side2 A5.out).mono ?_); (case side1 => exact xC HR0.out); (case side2 => exact HC0.out); rintro e w' ⟨rfl, ⟨nd, rfl⟩⟩; refine ⟨_, rfl, ?_⟩) | (go_at_call 223; (with_reducible refine (impl_in.calls a1 0 64 true _ A7.out).mono ?_); rintro e w' ⟨rfl, ⟨nd, rfl⟩⟩) | (go_at_call 224; (with_reducible refine (impl_isRatio.calls a2 a3 false _ A9.out).mono ?_); rintro e w' ⟨rfl, ⟨nd, rfl⟩⟩))
 go_ret
 exact ⟨by first | rfl | (simp; done) | (simp [*]; done), by repeat (first | exact Drawn0.refl _ | apply Drawn0.step)⟩
/-! ### impl_ProductsDirect: function 163 -/
def impl_ProductsDirect.l0 : Nat → List Int → Int → Int → Int → Option (Int × Bool)
 | 0, _, _, _, _ => none
 | k + 1, x0, x10, x20, x21 => if x21 < x20 then (impl_ProductsDirect.l0 k x0 (wrap64 (x10 + (mn (x0.length : Int) (wrap64 (x21 + 1))))) x20 (wrap64 (x21 + 1))) else (some (x10, true))
def impl_ProductsDirect.f (k : Nat) (l0 : List Int) (a1 : Int) (a2 : Int) (a3 : Int) : Option (Int × Bool) := (impl_isProducts.f k l0 a1 a2 a3).bind fun t443 => (if t443 = true then (impl_ProductsDirect.l0 k l0 0 (wrap64 (a1 * a2)) 0) else (some (0, false)))
theorem impl_ProductsDirect.mono_l : ∀ k, (∀ y0 y1 y2 y3, LeO (impl_ProductsDirect.l0 k y0 y1 y2 y3) (impl_ProductsDirect.l0 (k + 1) y0 y1 y2 y3))
 | 0 => fun _ _ _ _ r h => by simp [impl_ProductsDirect.l0] at h
 | k + 1 => by
  have ih0 := impl_ProductsDirect.mono_l k
  have m0 := @impl_isProducts.mono
  intros
  unfold impl_ProductsDirect.l0
  exact xM
theorem impl_ProductsDirect.mono : ∀ a0 a1 a2 a3 k, LeO (impl_ProductsDirect.f k a0 a1 a2 a3) (impl_ProductsDirect.f (k + 1) a0 a1 a2 a3) := by
 intro a0 a1 a2 a3 k
 have ih0 := impl_ProductsDirect.mono_l k
 have m0 := @impl_isProducts.mono
 unfold impl_ProductsDirect.f
 exact xM
set_option maxHeartbeats 8000000 in
set_option maxRecDepth 100000 in
theorem impl_ProductsDirect.calls (k : Nat) (A0 : Option Addr) (c0 : Nat) (l0 : List Int) (a1 : Int) (a2 : Int) (a3 : Int) (r1 : Int) (r2 : Bool) (w : World) (hr0 : Kd.C (Kd.int .i64) w A0 l0.length l0) (hc0 : l0.length ≤ c0) (h : impl_ProductsDirect.f k l0 a1 a2 a3 = some (r1, r2)) :
  Calls Try.prog 163 #[.slice A0 l0.length c0, .int .i64 a1, .int .i64 a2, .int .i64 a3] w fun e w' => e = .returned (.tuple #[.int .i64 r1, .bool r2]) ∧ Below w.heap.size w w' := by
 have HR0 := Aside0.mk hr0
 have HC0 := Aside0.mk hc0
 clear hr0 hc0
 have HB := Aside0.mk (Below.refl w.heap.size w)
 have H : ((impl_isProducts.f k l0 a1 a2 a3).bind fun t443 => (if t443 = true then (impl_ProductsDirect.l0 k l0 0 (wrap64 (a1 * a2)) 0) else (some (0, false)))) = some (r1, r2) := h
 clear h
 obtain ⟨t443, A5, H⟩ := xO H
 (try dsimp only at H)
 by_cases c6 : t443 = true
 rotate_left
 ·replace c6 := Bool.eq_false_iff.mpr c6
  subst c6
  rw [if_neg (show ¬ (false = true) by decide)] at H
  simp only [Option.some.injEq, Prod.mk.injEq] at H
  obtain ⟨rfl, rfl⟩ := H
  go_enter Try.func163, Try.ntmps163
  go_wp2_with (first | (refine xG (some 16) Try.func355 #[.slice A0 l0.length c0, .int .i64 a1, .int .i64 a2, .int .i64 a3] ?_; (with_reducible refine (impl_isProducts.calls k _ _ l0 a1 a2 a3 false _ ?side1 ?side2 A5.out).mono ?_); (case side1 => exact xC HR0.out); (case side2 => exact HC0.out); rintro e w' ⟨rfl, ⟨nd, rfl⟩⟩; refine ⟨_, rfl, ?_⟩))
  go_ret2
  exact ⟨by first | rfl | (simp [errW_none, errW_some] <;> rfl) | (simp [*, errW_none, errW_some] <;> rfl), xB HB.out⟩

 subst c6
 rw [if_pos rfl] at H
 have H' := Aside0.mk H
 clear H
 go_enter Try.func163, Try.ntmps163
 go_wp2_with (first | (refine xG (some 16) Try.func355 #[.slice A0 l0.length c0, .int .i64 a1, .int .i64 a2, .int .i64 a3] ?_; (with_reducible refine (impl_isProducts.calls k _ _ l0 a1 a2 a3 true _ ?side1 ?side2 A5.out).mono ?_); (case side1 => exact xC HR0.out); (case side2 => exact HC0.out); rintro e w' ⟨rfl, ⟨nd, rfl⟩⟩; refine ⟨_, rfl, ?_⟩))
 go_loopg [10, 21] k (fun kq v10 v21 w' => ∃ (x10_1 : Int) (x21_1 : Int), v10 = .int .i64 x10_1 ∧ v21 = .int .i64 x21_1 ∧ Aside0 (impl_ProductsDirect.l0 kq l0 x10_1 (wrap64 (a1 * a2)) x21_1 = some (r1, r2)) ∧ Aside0 (kq ≤ k) ∧ Aside0 (Below w.heap.size w w'))
 case atStart => exact ⟨(0), (0), (by first | rfl | (simp; done) | (simp [*]; done)), (by first | rfl | (simp; done) | (simp [*]; done)), H', ⟨Nat.le_refl _⟩, ⟨xB HB.out⟩⟩
 case round =>
  clear H'
  try clear c6
  obtain ⟨x10_1, x21_1, rfl, rfl, HA, HK1, HB⟩ := hrel
  cases gk with
  | zero => exact absurd HA.out (by simp [impl_ProductsDirect.l0])
  | succ k1 =>
   have H := HA.out
   clear HA
   simp only [impl_ProductsDirect.l0] at H
   by_cases c7 : x21_1 < (wrap64 (a1 * a2))
   rotate_left
   ·rw [if_neg c7] at H
    have c7b0 : decide (x21_1 < (wrap64 (a1 * a2))) = false := decide_eq_false c7
    clear c7
    simp only [Option.some.injEq, Prod.mk.injEq] at H
    obtain ⟨rfl, rfl⟩ := H
    go_wp2
    go_ret2
    exact ⟨by first | rfl | (simp [errW_none, errW_some] <;> rfl) | (simp [*, errW_none, errW_some] <;> rfl), xB HB.out⟩
   rw [if_pos c7] at H
   have c7b0 : decide (x21_1 < (wrap64 (a1 * a2))) = true := decide_eq_true c7
   clear c7
   obtain ⟨ji8, hji8⟩ : ∃ j_ : Int, (mn (l0.length : Int) (wrap64 (x21_1 + 1))) = j_ := ⟨_, rfl⟩
   replace H : (impl_ProductsDirect.l0 k1 l0 (wrap64 (x10_1 + (ji8))) (wrap64 (a1 * a2)) (wrap64 (x21_1 + 1))) = some (r1, r2) := by first | (rw [hji8] at H; exact H) | (simp only [hji8] at H ⊢; exact H)
   have hji8_ : (if (wrap64 (x21_1 + 1)) < (l0.length : Int) then (wrap64 (x21_1 + 1)) else (l0.length : Int)) = ji8 := hji8
   have H' := Aside0.mk H
   clear H
   go_wp2
   go_roundg k1
   case measure => have := HK1.out; omega
   case rel => exact ⟨(wrap64 (x10_1 + (ji8))), (wrap64 (x21_1 + 1)), (by first | rfl | (simp; done) | (simp only [← hji8] <;> (first | rfl | simp)) | (simp [*]; done)), (by first | rfl | (simp; done) | (simp [*]; done)), H', ⟨by have := HK1.out; omega⟩, ⟨xB HB.out⟩⟩
/-! ### impl_ProductsByPhases: function 164 -/
def impl_ProductsByPhases.l0 : Nat → Int → Int → Int → List (List Int) → Int → Int → Option (Int × Bool)
 | 0, _, _, _, _, _, _ => none
 | k + 1, x1, x2, x3, x10, x11, x12 => if x12 < (wrap64 (x1 * x2)) then (if x2 = 0 then (none) else (if 0 ≤ (Int.tmod x12 x2) then (if (Int.tmod x12 x2) < (x10.length : Int) then (impl_ProductsByPhases.l0 k x1 x2 x3 x10 (wrap64 (x11 + (mn ((rd_L2 x10 (Int.tmod x12 x2)).length : Int) (wrap64 ((wrap64 (Int.tdiv x12 x2)) + 1))))) (wrap64 (x12 + x3))) else (none)) else (none))) else (some (x11, true))
def impl_ProductsByPhases.f (k : Nat) (l0 : List Int) (a1 : Int) (a2 : Int) (a3 : Int) : Option (Int × Bool) := (impl_isProducts.f k l0 a1 a2 a3).bind fun t444 => (if t444 = true then ((impl_phasesOf.f k l0 a2).bind fun t445 => (impl_ProductsByPhases.l0 k a1 a2 a3 t445 0 0)) else (some (0, false)))
theorem impl_ProductsByPhases.mono_l : ∀ k, (∀ y0 y1 y2 y3 y4 y5, LeO (impl_ProductsByPhases.l0 k y0 y1 y2 y3 y4 y5) (impl_ProductsByPhases.l0 (k + 1) y0 y1 y2 y3 y4 y5))
 | 0 => fun _ _ _ _ _ _ r h => by simp [impl_ProductsByPhases.l0] at h
 | k + 1 => by
  have ih0 := impl_ProductsByPhases.mono_l k
  have m0 := @impl_isProducts.mono
  have m1 := @impl_phasesOf.mono
  intros
  unfold impl_ProductsByPhases.l0
  exact xM
theorem impl_ProductsByPhases.mono : ∀ a0 a1 a2 a3 k, LeO (impl_ProductsByPhases.f k a0 a1 a2 a3) (impl_ProductsByPhases.f (k + 1) a0 a1 a2 a3) := by
 intro a0 a1 a2 a3 k
 have ih0 := impl_ProductsByPhases.mono_l k
 have m0 := @impl_isProducts.mono
 have m1 := @impl_phasesOf.mono
 unfold impl_ProductsByPhases.f
 exact xM
set_option maxHeartbeats 8000000 in
set_option maxRecDepth 100000 in
theorem impl_ProductsByPhases.calls (k : Nat) (A0 : Option Addr) (c0 : Nat) (l0 : List Int) (a1 : Int) (a2 : Int) (a3 : Int) (r1 : Int) (r2 : Bool) (w : World) (hr0 : Kd.C (Kd.int .i64) w A0 l0.length l0) (hc0 : l0.length ≤ c0) (h : impl_ProductsByPhases.f k l0 a1 a2 a3 = some (r1, r2)) :
  Calls Try.prog 164 #[.slice A0 l0.length c0, .int .i64 a1, .int .i64 a2, .int .i64 a3] w fun e w' => e = .returned (.tuple #[.int .i64 r1, .bool r2]) ∧ Below w.heap.size w w' := by
 have HR0 := Aside0.mk hr0
 have HC0 := Aside0.mk hc0
 clear hr0 hc0
 have HB := Aside0.mk (Below.refl w.heap.size w)
 have H : ((impl_isProducts.f k l0 a1 a2 a3).bind fun t444 => (if t444 = true then ((impl_phasesOf.f k l0 a2).bind fun t445 => (impl_ProductsByPhases.l0 k a1 a2 a3 t445 0 0)) else (some (0, false)))) = some (r1, r2) := h
 clear h
 obtain ⟨t444, A5, H⟩ := xO H
 (try dsimp only at H)
 by_cases c6 : t444 = true
 rotate_left
 ·replace c6 := Bool.eq_false_iff.mpr c6
  subst c6
  rw [if_neg (show ¬ (false = true) by decide)] at H
  simp only [Option.some.injEq, Prod.mk.injEq] at H
  obtain ⟨rfl, rfl⟩ := H
  go_enter Try.func164, Try.ntmps164
  go_wp2_with (first | (go_at_call 355; (with_reducible refine (impl_isProducts.calls k _ _ l0 a1 a2 a3 false _ ?side1 ?side2 A5.out).mono ?_); (case side1 => exact xC HR0.out); (case side2 => exact HC0.out); rintro e w' ⟨rfl, ⟨nd, rfl⟩⟩; (try exact xD)))
  repeat (go_quiet (first | (go_at_call 355; (with_reducible refine (impl_isProducts.calls k _ _ l0 a1 a2 a3 false _ ?side1 ?side2 A5.out).mono ?_); (case side1 => exact xC HR0.out); (case side2 => exact HC0.out); rintro e w' ⟨rfl, ⟨nd, rfl⟩⟩; (try exact xD))); try go_wp2_with (first | (go_at_call 355; (with_reducible refine (impl_isProducts.calls k _ _ l0 a1 a2 a3 false _ ?side1 ?side2 A5.out).mono ?_); (case side1 => exact xC HR0.out); (case side2 => exact HC0.out); rintro e w' ⟨rfl, ⟨nd, rfl⟩⟩; (try exact xD))))
  go_ret2
  exact ⟨by first | rfl | (simp [errW_none, errW_some] <;> rfl) | (simp [*, errW_none, errW_some] <;> rfl), xB HB.out⟩

 subst c6
 rw [if_pos rfl] at H
 obtain ⟨t445, A7, H⟩ := xO H
 (try dsimp only at H)
 have H' := Aside0.mk H
 clear H
 go_enter Try.func164, Try.ntmps164
 go_wp2_with (first | (go_at_call 355; (with_reducible refine (impl_isProducts.calls k _ _ l0 a1 a2 a3 true _ ?side1 ?side2 A5.out).mono ?_); (case side1 => exact xC HR0.out); (case side2 => exact HC0.out); rintro e w' ⟨rfl, ⟨nd, rfl⟩⟩; (try exact xD)) | (go_at_call 353; (with_reducible refine (impl_phasesOf.calls k _ _ l0 a2 t445 _ ?side1 ?side2 A7.out).mono ?_); (case side1 => exact xC HR0.out); (case side2 => exact HC0.out); rintro e w8 ⟨v446, rfl, ho0, hb⟩; have HO447 := Aside0.mk (Kd.S_lower ho0 (below_size (xB HB.out))); replace HB := Aside0.mk (below_step (xB HB.out) hb); (try clear hb); (try clear hb2); (try clear hk); (try clear hi); (try clear ho0)))
 repeat (go_quiet (first | (go_at_call 355; (with_reducible refine (impl_isProducts.calls k _ _ l0 a1 a2 a3 true _ ?side1 ?side2 A5.out).mono ?_); (case side1 => exact xC HR0.out); (case side2 => exact HC0.out); rintro e w' ⟨rfl, ⟨nd, rfl⟩⟩; (try exact xD)) | (go_at_call 353; (with_reducible refine (impl_phasesOf.calls k _ _ l0 a2 t445 _ ?side1 ?side2 A7.out).mono ?_); (case side1 => exact xC HR0.out); (case side2 => exact HC0.out); rintro e w8 ⟨v446, rfl, ho0, hb⟩; have HO447 := Aside0.mk (Kd.S_lower ho0 (below_size (xB HB.out))); replace HB := Aside0.mk (below_step (xB HB.out) hb); (try clear hb); (try clear hb2); (try clear hk); (try clear hi); (try clear ho0))); try go_wp2_with (first | (go_at_call 355; (with_reducible refine (impl_isProducts.calls k _ _ l0 a1 a2 a3 true _ ?side1 ?side2 A5.out).mono ?_); (case side1 => exact xC HR0.out); (case side2 => exact HC0.out); rintro e w' ⟨rfl, ⟨nd, rfl⟩⟩; (try exact xD)) | (go_at_call 353; (with_reducible refine (impl_phasesOf.calls k _ _ l0 a2 t445 _ ?side1 ?side2 A7.out).mono ?_); (case side1 => exact xC HR0.out); (case side2 => exact HC0.out); rintro e w8 ⟨v446, rfl, ho0, hb⟩; have HO447 := Aside0.mk (Kd.S_lower ho0 (below_size (xB HB.out))); replace HB := Aside0.mk (below_step (xB HB.out) hb); (try clear hb); (try clear hb2); (try clear hk); (try clear hi); (try clear ho0))))
 go_loopg [11, 12] k (fun kq v11 v12 w' => ∃ (x11_1 : Int) (x12_1 : Int), v11 = .int .i64 x11_1 ∧ v12 = .int .i64 x12_1 ∧ Aside0 (impl_ProductsByPhases.l0 kq a1 a2 a3 t445 x11_1 x12_1 = some (r1, r2)) ∧ Aside0 (kq ≤ k) ∧ Aside0 (Kd.S (Kd.slice 3 (Kd.int .i64)) 24 w' w.heap.size (fun _ => True) v446 t445) ∧ Aside0 (Below w.heap.size w w'))
 case atStart => exact ⟨(0), (0), (by first | rfl | (simp; done) | (simp [*]; done)), (by first | rfl | (simp; done) | (simp [*]; done)), H', ⟨Nat.le_refl _⟩, ⟨xS HO447.out⟩, ⟨xB HB.out⟩⟩
 case round =>
  clear H'
  try clear c6
  obtain ⟨x11_1, x12_1, rfl, rfl, HA, HK1, HO_10, HB⟩ := hrel
  cases gk with
  | zero => exact absurd HA.out (by simp [impl_ProductsByPhases.l0])
  | succ k1 =>
   have H := HA.out
   clear HA
   simp only [impl_ProductsByPhases.l0] at H
   by_cases c9 : x12_1 < (wrap64 (a1 * a2))
   rotate_left
   ·rw [if_neg c9] at H
    have c9b0 : decide (x12_1 < (wrap64 (a1 * a2))) = false := decide_eq_false c9
    clear c9
    simp only [Option.some.injEq, Prod.mk.injEq] at H
    obtain ⟨rfl, rfl⟩ := H
    go_wp2
    repeat (go_quiet (fail); try go_wp2)
    go_ret2
    exact ⟨by first | rfl | (simp [errW_none, errW_some] <;> rfl) | (simp [*, errW_none, errW_some] <;> rfl), xB HB.out⟩
   rw [if_pos c9] at H
   have c9b0 : decide (x12_1 < (wrap64 (a1 * a2))) = true := decide_eq_true c9
   clear c9
   by_cases c10 : a2 = 0
   ·rw [if_pos c10] at H
    exact absurd H (by simp)
   rw [if_neg c10] at H
   have c10b0 : (a2 == 0) = false := beq_eq_false_iff_ne.mpr c10
   have c10b1 : (a2 != 0) = true := bne_iff_ne.mpr c10
   obtain ⟨ji11, hji11⟩ : ∃ j_ : Int, (Int.tmod x12_1 a2) = j_ := ⟨_, rfl⟩
   replace H : (if 0 ≤ (ji11) then (if (ji11) < (t445.length : Int) then (impl_ProductsByPhases.l0 k1 a1 a2 a3 t445 (wrap64 (x11_1 + (mn ((rd_L2 t445 (ji11)).length : Int) (wrap64 ((wrap64 (Int.tdiv x12_1 a2)) + 1))))) (wrap64 (x12_1 + a3))) else (none)) else (none)) = some (r1, r2) := by first | (rw [hji11] at H; exact H) | (simp only [hji11] at H ⊢; exact H)
   by_cases c12 : 0 ≤ (ji11)
   rotate_left
   ·rw [if_neg c12] at H
    exact absurd H (by simp)
   rw [if_pos c12] at H
   have c12b0 : decide (0 ≤ (ji11)) = true := decide_eq_true c12
   clear c12
   by_cases c13 : (ji11) < (t445.length : Int)
   rotate_left
   ·rw [if_neg c13] at H
    exact absurd H (by simp)
   rw [if_pos c13] at H
   have c13b0 : decide ((ji11) < (t445.length : Int)) = true := decide_eq_true c13
   clear c13
   obtain ⟨ji14, hji14⟩ : ∃ j_ : Int, (mn ((rd_L2 t445 (ji11)).length : Int) (wrap64 ((wrap64 (Int.tdiv x12_1 a2)) + 1))) = j_ := ⟨_, rfl⟩
   replace H : (impl_ProductsByPhases.l0 k1 a1 a2 a3 t445 (wrap64 (x11_1 + (ji14))) (wrap64 (x12_1 + a3))) = some (r1, r2) := by first | (rw [hji14] at H; exact H) | (simp only [hji14] at H ⊢; exact H)
   have hji14_ : (if (wrap64 ((wrap64 (Int.tdiv x12_1 a2)) + 1)) < ((rd_L2 t445 (ji11)).length : Int) then (wrap64 ((wrap64 (Int.tdiv x12_1 a2)) + 1)) else ((rd_L2 t445 (ji11)).length : Int)) = ji14 := hji14
   have H' := Aside0.mk H
   clear H
   obtain ⟨Ao15, co15, eo15⟩ := Kd.S_slice HO_10.out
   subst eo15
   have p448 : 0 ≤ ((ji11) : Int) := of_decide_eq_true (by first | (with_reducible assumption) | assumption | (rw [← hji11]; first | (with_reducible assumption) | assumption))
   have q448 : (ji11) < (t445.length : Int) := of_decide_eq_true (by first | (with_reducible assumption) | assumption | (rw [← hji11]; first | (with_reducible assumption) | assumption))
   obtain ⟨ad448, A448_0, c448_0, e448, hx448_0, hl448_0, hi448_0⟩ := at_L2 (Kd.S_reads' HO_10.out).2.2 (ji11) p448 q448
   cases e448
   obtain ⟨ce448, hce448, hMe448, hcc448⟩ := Kd.S_get HO_10.out [] (ji11) p448 (by first | exact q448 | exact of_decide_eq_true (by first | (with_reducible assumption) | assumption) | (have e_ := (Kd.S_reads' HO_10.out).1; omega))
   obtain ⟨ve448_0, rfl, ge448_0⟩ := hMe448
   have hv448_0 := hcc448 0 _ rfl
   rw [Nat.add_zero, show ((Kd.slice 3 (Kd.int .i64))).sz = 1 from rfl, Nat.mul_one] at hv448_0
   replace hv448_0 := Option.some.inj (hv448_0.symm.trans hx448_0)
   rw [hv448_0] at ge448_0
   have HL448_0 := Aside0.mk (show Kd.R (Kd.int .i64) 3 _ _ _ _ (rd_L2 t445 (ji11)) from ge448_0)
   clear hv448_0 ge448_0
   clear hcc448 hce448
   have HR448_0 := Aside0.mk hi448_0
   have HC448_0 := Aside0.mk hl448_0
   clear hi448_0 hl448_0
   replace p448 := eq_true p448
   replace q448 := eq_true q448
   go_wp2
   repeat (go_quiet (fail); try go_wp2)
   go_roundg k1
   case measure => have := HK1.out; omega
   case rel => exact ⟨(wrap64 (x11_1 + (ji14))), (wrap64 (x12_1 + a3)), (by first | rfl | (simp; done) | (simp only [← hji14] <;> (first | rfl | simp)) | (simp [*]; done)), (by first | rfl | (simp; done) | (simp [*]; done)), H', ⟨by have := HK1.out; omega⟩, ⟨xS HO_10.out⟩, ⟨xB HB.out⟩⟩
/-! ### impl_UpFilter: function 165 -/
def impl_UpFilter.f (k : Nat) (l0 : List Int) (l1 : List Int) (a2 : Int) : Option (List Int × Bool) := (impl_UpFilterDown.f k l0 l1 a2 1).bind fun bt449 => (some (bt449.1, bt449.2))
theorem impl_UpFilter.mono : ∀ a0 a1 a2 k, LeO (impl_UpFilter.f k a0 a1 a2) (impl_UpFilter.f (k + 1) a0 a1 a2) := by
 intro a0 a1 a2 k
 have m0 := @impl_UpFilterDown.mono
 unfold impl_UpFilter.f
 exact xM
set_option maxHeartbeats 8000000 in
set_option maxRecDepth 100000 in
theorem impl_UpFilter.calls (k : Nat) (A0 : Option Addr) (c0 : Nat) (l0 : List Int) (A1 : Option Addr) (c1 : Nat) (l1 : List Int) (a2 : Int) (r1 : List Int) (r2 : Bool) (w : World) (hr0 : Kd.C (Kd.int .i64) w A0 l0.length l0) (hc0 : l0.length ≤ c0) (hr1 : Kd.C (Kd.int .i64) w A1 l1.length l1) (hc1 : l1.length ≤ c1) (h : impl_UpFilter.f k l0 l1 a2 = some (r1, r2)) :
  Calls Try.prog 165 #[.slice A0 l0.length c0, .slice A1 l1.length c1, .int .i64 a2] w fun e w' => ∃ v0_ : Value, e = .returned (.tuple #[v0_, .bool r2]) ∧ Kd.R (Kd.int .i64) 3 w' w.heap.size (fun _ => True) v0_ r1 ∧ Below w.heap.size w w' := by
 have HR0 := Aside0.mk hr0
 have HC0 := Aside0.mk hc0
 clear hr0 hc0
 have HR1 := Aside0.mk hr1
 have HC1 := Aside0.mk hc1
 clear hr1 hc1
 have HB := Aside0.mk (Below.refl w.heap.size w)
 have H : ((impl_UpFilterDown.f k l0 l1 a2 1).bind fun bt449 => (some (bt449.1, bt449.2))) = some (r1, r2) := h
 clear h
 replace H := Option.bind_eq_some_iff.mp H
 obtain ⟨⟨t449, t450⟩, A40, H⟩ := H
 (try dsimp only at H)
 have A4 := Aside0.mk A40
 clear A40
 simp only [Option.some.injEq, Prod.mk.injEq] at H
 obtain ⟨rfl, rfl⟩ := H
 go_enter Try.func165, Try.ntmps165
 go_wp2_with (first | (refine xG (some 11) Try.func159 #[.slice A0 l0.length c0, .slice A1 l1.length c1, .int .i64 a2, .int .i64 1] ?_; (with_reducible refine (impl_UpFilterDown.calls k _ _ l0 _ _ l1 a2 1 t449 t450 _ ?side1 ?side2 ?side3 ?side4 A4.out).mono ?_); (case side1 => exact xC HR0.out); (case side2 => exact HC0.out); (case side3 => exact xC HR1.out); (case side4 => exact HC1.out); rintro e w5 ⟨v451, rfl, ho0, hb⟩; refine ⟨_, rfl, ?_⟩; have HO452 := Aside0.mk (Kd.R_lower ho0 (below_size (xB HB.out))); replace HB := Aside0.mk (below_step (xB HB.out) hb); (try clear hb); (try clear hb2); (try clear hk); (try clear hi); (try clear ho0)))
 go_ret2
 exact ⟨_, by first | rfl | (simp [errW_none, errW_some] <;> rfl) | (simp [*, errW_none, errW_some] <;> rfl), xR HO452.out, xB HB.out⟩

/-! ### impl_DropSamples: function 166 -/
def impl_DropSamples.f (k : Nat) (l0 : List Int) (a1 : Int) (a2 : Int) : Option (List Int × Bool) := (impl_isSignal.f k l0).bind fun t453 => (if t453 = true then ((impl_isRate.f a1).bind fun t454 => (if t454 = true then ((impl_in.f a2 0 (wrap64 (a1 - 1))).bind fun t455 => (if t455 = true then ((impl_drop.f k l0 a1 a2).bind fun t456 => (some (t456, true))) else (some (([] : List Int), false)))) else (some (([] : List Int), false)))) else (some (([] : List Int), false)))
theorem impl_DropSamples.mono : ∀ a0 a1 a2 k, LeO (impl_DropSamples.f k a0 a1 a2) (impl_DropSamples.f (k + 1) a0 a1 a2) := by
 intro a0 a1 a2 k
 have m0 := @impl_drop.mono
 have m1 := @impl_isSignal.mono
 unfold impl_DropSamples.f
 exact xM
set_option maxHeartbeats 8000000 in
set_option maxRecDepth 100000 in
theorem impl_DropSamples.calls (k : Nat) (A0 : Option Addr) (c0 : Nat) (l0 : List Int) (a1 : Int) (a2 : Int) (r1 : List Int) (r2 : Bool) (w : World) (hr0 : Kd.C (Kd.int .i64) w A0 l0.length l0) (hc0 : l0.length ≤ c0) (h : impl_DropSamples.f k l0 a1 a2 = some (r1, r2)) :
  Calls Try.prog 166 #[.slice A0 l0.length c0, .int .i64 a1, .int .i64 a2] w fun e w' => ∃ v0_ : Value, e = .returned (.tuple #[v0_, .bool r2]) ∧ Kd.R (Kd.int .i64) 3 w' w.heap.size (fun _ => True) v0_ r1 ∧ Below w.heap.size w w' := by
 have HR0 := Aside0.mk hr0
 have HC0 := Aside0.mk hc0
 clear hr0 hc0
 have HB := Aside0.mk (Below.refl w.heap.size w)
 have H : ((impl_isSignal.f k l0).bind fun t453 => (if t453 = true then ((impl_isRate.f a1).bind fun t454 => (if t454 = true then ((impl_in.f a2 0 (wrap64 (a1 - 1))).bind fun t455 => (if t455 = true then ((impl_drop.f k l0 a1 a2).bind fun t456 => (some (t456, true))) else (some (([] : List Int), false)))) else (some (([] : List Int), false)))) else (some (([] : List Int), false)))) = some (r1, r2) := h
 clear h
 obtain ⟨t453, A4, H⟩ := xO H
 (try dsimp only at H)
 by_cases c5 : t453 = true
 rotate_left
 ·replace c5 := Bool.eq_false_iff.mpr c5
  subst c5
  rw [if_neg (show ¬ (false = true) by decide)] at H
  simp only [Option.some.injEq, Prod.mk.injEq] at H
  obtain ⟨rfl, rfl⟩ := H
  go_enter Try.func166, Try.ntmps166
  go_wp2_with (first | (refine xG (some 9) Try.func233 #[.slice A0 l0.length c0] ?_; (with_reducible refine (impl_isSignal.calls k _ _ l0 false _ ?side1 ?side2 A4.out).mono ?_); (case side1 => exact xC HR0.out); (case side2 => exact HC0.out); rintro e w' ⟨rfl, ⟨nd, rfl⟩⟩; refine ⟨_, rfl, ?_⟩))
  go_ret2
  exact ⟨_, by first | rfl | (simp [errW_none, errW_some] <;> rfl) | (simp [*, errW_none, errW_some] <;> rfl), by first | exact Kd.R_nil _ _ _ _ _ | exact Kd.N_nil _ _ _ _ _ | exact Kd.V_nil _ _ _ _ _ | exact Kd.Q_nil _ _ _ _ _ | exact Kd.S_nil _ _ _ _ _, xB HB.out⟩

 subst c5
 rw [if_pos rfl] at H
 obtain ⟨t454, A6, H⟩ := xO H
 (try dsimp only at H)
 by_cases c7 : t454 = true
 rotate_left
 ·replace c7 := Bool.eq_false_iff.mpr c7
  subst c7
  rw [if_neg (show ¬ (false = true) by decide)] at H
  simp only [Option.some.injEq, Prod.mk.injEq] at H
  obtain ⟨rfl, rfl⟩ := H
  go_enter Try.func166, Try.ntmps166
  go_wp2_with (first | (refine xG (some 9) Try.func233 #[.slice A0 l0.length c0] ?_; (with_reducible refine (impl_isSignal.calls k _ _ l0 true _ ?side1 ?side2 A4.out).mono ?_); (case side1 => exact xC HR0.out); (case side2 => exact HC0.out); rintro e w' ⟨rfl, ⟨nd, rfl⟩⟩; refine ⟨_, rfl, ?_⟩) | (go_at_call 356; (with_reducible refine (impl_isRate.calls a1 false _ A6.out).mono ?_); rintro e w' ⟨rfl, ⟨nd, rfl⟩⟩))
  go_ret2
  exact ⟨_, by first | rfl | (simp [errW_none, errW_some] <;> rfl) | (simp [*, errW_none, errW_some] <;> rfl), by first | exact Kd.R_nil _ _ _ _ _ | exact Kd.N_nil _ _ _ _ _ | exact Kd.V_nil _ _ _ _ _ | exact Kd.Q_nil _ _ _ _ _ | exact Kd.S_nil _ _ _ _ _, xB HB.out⟩
 subst c7
 rw [if_pos rfl] at H
 obtain ⟨t455, A8, H⟩ := xO H
 (try dsimp only at H)
 by_cases c9 : t455 = true
 rotate_left
 ·replace c9 := Bool.eq_false_iff.mpr c9
  subst c9
  rw [if_neg (show ¬ (false = true) by decide)] at H
  simp only [Option.some.injEq, Prod.mk.injEq] at H
  obtain ⟨rfl, rfl⟩ := H
  go_enter Try.func166, Try.ntmps166
  go_wp2_with (first | (refine xG (some 9) Try.func233 #[.slice A0 l0.length c0] ?_; (with_reducible refine (impl_isSignal.calls k _ _ l0 true _ ?side1 ?side2 A4.out).mono ?_); (case side1 => exact xC HR0.out); (case side2 => exact HC0.out); rintro e w' ⟨rfl, ⟨nd, rfl⟩⟩; refine ⟨_, rfl, ?_⟩) | (go_at_call 356; (with_reducible refine (impl_isRate.calls a1 true _ A6.out).mono ?_); rintro e w' ⟨rfl, ⟨nd, rfl⟩⟩) | (go_at_call 223; (with_reducible refine (impl_in.calls a2 0 (wrap64 (a1 - 1)) false _ A8.out).mono ?_); rintro e w' ⟨rfl, ⟨nd, rfl⟩⟩))
  go_ret2
  exact ⟨_, by first | rfl | (simp [errW_none, errW_some] <;> rfl) | (simp [*, errW_none, errW_some] <;> rfl), by first | exact Kd.R_nil _ _ _ _ _ | exact Kd.N_nil _ _ _ _ _ | exact Kd.V_nil _ _ _ _ _ | exact Kd.Q_nil _ _ _ _ _ | exact Kd.S_nil _ _ _ _ _, xB HB.out⟩
 subst c9
 rw [if_pos rfl] at H
 obtain ⟨t456, A10, H⟩ := xO H
 (try dsimp only at H)
 simp only [Option.some.injEq, Prod.mk.injEq] at H
 obtain ⟨rfl, rfl⟩ := H
 go_enter Try.func166, Try.ntmps166
 go_wp2_with (first | (refine xG (some 9) Try.func233 #[.slice A0 l0.length c0] ?_; (with_reducible refine (impl_isSignal.calls k _ _ l0 true _ ?side1 ?side2 A4.out).mono ?_); (case side1 => exact xC HR0.out); (case side2 => exact HC0.out); rintro e w' ⟨rfl, ⟨nd, rfl⟩⟩; refine ⟨_, rfl, ?_⟩) | (go_at_call 356; (with_reducible refine (impl_isRate.calls a1 true _ A6.out).mono ?_); rintro e w' ⟨rfl, ⟨nd, rfl⟩⟩) | (go_at_call 223; (with_reducible refine (impl_in.calls a2 0 (wrap64 (a1 - 1)) true _ A8.out).mono ?_); rintro e w' ⟨rfl, ⟨nd, rfl⟩⟩) | (refine xG (some 26) Try.func323 #[.slice A0 l0.length c0, .int .i64 a1, .int .i64 a2] ?_; (with_reducible refine (impl_drop.calls k _ _ l0 a1 a2 t456 _ ?side1 ?side2 A10.out).mono ?_); (case side1 => exact xC HR0.out); (case side2 => exact HC0.out); rintro e w11 ⟨v457, rfl, ho0, hb⟩; refine ⟨_, rfl, ?_⟩; have HO458 := Aside0.mk (Kd.R_lower ho0 (below_size (xB HB.out))); replace HB := Aside0.mk (below_step (xB HB.out) hb); (try clear hb); (try clear hb2); (try clear hk); (try clear hi); (try clear ho0)))
 go_ret2
 exact ⟨_, by first | rfl | (simp [errW_none, errW_some] <;> rfl) | (simp [*, errW_none, errW_some] <;> rfl), xR HO458.out, xB HB.out⟩
end Go.Proofs.Ytjplcongellcmaa.PFnPhasesWork
