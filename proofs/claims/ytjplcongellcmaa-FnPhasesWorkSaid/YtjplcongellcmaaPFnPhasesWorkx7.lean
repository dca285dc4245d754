/- What each Go function that the statement FnPhasesWork reaches answers, proved call by call. No condition beyond those that the theorems print. (Written by wip/tools/xprint.py of this repo, over the kit's print.) -/
import Derived.Test.YtjplcongellcmaaPFnPhasesWorkx0
import Derived.Test.YtjplcongellcmaaPFnPhasesWorkx1
import Derived.Test.YtjplcongellcmaaPFnPhasesWorkx2
import Derived.Test.YtjplcongellcmaaPFnPhasesWorkx6
namespace Go.Proofs.Ytjplcongellcmaa.PFnPhasesWork
open Go.RowKit Go.Proofs.YtjplcongellcmaaW.PrintWords Go.Proofs.YtjplcongellcmaaW.PrintLast Go.Proofs.YtjplcongellcmaaW.PrintMore
attribute [local go_sem] max2_int min2_int max_two min_two max_three min_three max_four min_four   -- for this text's walks alone
set_option linter.unusedVariables false
set_option linter.unusedSimpArgs false
def x7a0 : Array Bool := #[false, false, false, false, false, false, false, false, false, false, false, false, false, false, false]
def x7a1 : Array Bool := #[true, false, false, false, false, false, false, false, false, false, false, false, false, false, false]
def x7a2 : Array Bool := #[true, true, false, false, false, false, false, false, false, false, false, false, false, false, false]
def x7a3 : Array Bool := #[true, true, true, false, false, false, false, false, false, false, false, false, false, false, false]
def x7a4 : Array Bool := #[true, true, true, true, false, false, false, false, false, false, false, false, false, false, false]
def x7a5 : Array Bool := #[true, true, true, true, true, false, false, false, false, false, false, false, false, false, false]
def x7a6 : Array Bool := #[true, true, true, true, true, true, false, false, false, false, false, false, false, false, false]
def x7a7 : Array Bool := #[true, true, true, true, true, true, true, false, false, false, false, false, false, false, false]
def x7a8 : Array Bool := #[true, true, true, true, true, true, true, true, false, false, false, false, false, false, false]
def x7a9 : Array Bool := #[true, true, true, true, true, true, true, true, true, false, false, false, false, false, false]
def x7a10 : Array Bool := #[true, true, true, true, true, true, true, true, true, false, true, false, false, false, false]
def x7a11 : Array Bool := #[true, true, true, true, true, true, true, true, true, true, true, false, false, false, false]
def x7a12 : Array Bool := #[true, true, true, true, true, true, true, true, true, true, true, true, false, false, false]
def x7a13 : Array Bool := #[true, true, true, true, true, true, true, true, true, true, true, true, true, false, false]
def x7a14 : Array Bool := #[true, true, true, true, true, true, true, true, true, true, true, true, true, true, false]
def x7a15 : Array Bool := #[true, true, true, true, true, true, true, true, true, true, true, true, true, true, true]

/-! ### impl_ByPhases: function 161 -/
mutual
def impl_ByPhases.j0 : Nat → List Int → List Int → Int → Int → Bool → Option (List Int × Bool)
 | 0, _, _, _, _, _ => none
 | k + 1, x0, x1, x2, x3, x36 => if x36 = true then (some (([] : List Int), false)) else ((impl_phasesOf.f k x0 x2).bind fun t393 => (impl_ByPhases.l0 k x1 x2 x3 t393 (([] : List Int)) 0))
def impl_ByPhases.l0 : Nat → List Int → Int → Int → List (List Int) → List Int → Int → Option (List Int × Bool)
 | 0, _, _, _, _, _, _ => none
 | k + 1, x1, x2, x3, x10, x11, x12 => if x12 < (wrap64 ((x1.length : Int) * x2)) then (if x2 = 0 then (none) else (if 0 ≤ (Int.tmod x12 x2) then (if (Int.tmod x12 x2) < (x10.length : Int) then (impl_ByPhases.l1 k x1 x2 x3 x10 x11 x12 0 (rd_L2 x10 (Int.tmod x12 x2)) ((rd_L2 x10 (Int.tmod x12 x2)).length : Int) 0) else (none)) else (none))) else ((impl_told.f k x11).bind fun bt399 => (some (bt399.1, bt399.2)))
def impl_ByPhases.l1 : Nat → List Int → Int → Int → List (List Int) → List Int → Int → Int → List Int → Int → Int → Option (List Int × Bool)
 | 0, _, _, _, _, _, _, _, _, _, _ => none
 | k + 1, x1, x2, x3, x10, x11, x12, x13, x55, x56, x57 => if x57 < x56 then (if 0 ≤ x57 then (if x57 < (x55.length : Int) then (if x2 = 0 then (none) else ((impl_at.f x1 (wrap64 ((wrap64 (Int.tdiv x12 x2)) - x57))).bind fun t405 => (impl_ByPhases.l1 k x1 x2 x3 x10 x11 x12 (wrap64 (x13 + (wrap64 ((rd x55 x57) * t405)))) x55 x56 (wrap64 (x57 + 1))))) else (none)) else (none)) else (if x11.length < 17592186044416 then (impl_ByPhases.l0 k x1 x2 x3 x10 (x11 ++ [x13]) (wrap64 (x12 + x3))) else (none))
end
def impl_ByPhases.f (k : Nat) (l0 : List Int) (l1 : List Int) (a2 : Int) (a3 : Int) : Option (List Int × Bool) := (impl_isWeights.f k l0).bind fun t390 => (if t390 = true then ((impl_isSignal.f k l1).bind fun t391 => (if t391 = true then ((impl_isRatio.f a2 a3).bind fun t392 => (if t392 = true then (impl_ByPhases.j0 k l0 l1 a2 a3 (decide ((wrap64 ((l1.length : Int) * a2)) > 64))) else (impl_ByPhases.j0 k l0 l1 a2 a3 true))) else (impl_ByPhases.j0 k l0 l1 a2 a3 true))) else (impl_ByPhases.j0 k l0 l1 a2 a3 true))
theorem impl_ByPhases.mono_l : ∀ k, (∀ y0 y1 y2 y3 y4, LeO (impl_ByPhases.j0 k y0 y1 y2 y3 y4) (impl_ByPhases.j0 (k + 1) y0 y1 y2 y3 y4)) ∧ (∀ y0 y1 y2 y3 y4 y5, LeO (impl_ByPhases.l0 k y0 y1 y2 y3 y4 y5) (impl_ByPhases.l0 (k + 1) y0 y1 y2 y3 y4 y5)) ∧ (∀ y0 y1 y2 y3 y4 y5 y6 y7 y8 y9, LeO (impl_ByPhases.l1 k y0 y1 y2 y3 y4 y5 y6 y7 y8 y9) (impl_ByPhases.l1 (k + 1) y0 y1 y2 y3 y4 y5 y6 y7 y8 y9))
 | 0 => ⟨fun _ _ _ _ _ r h => by simp [impl_ByPhases.j0] at h, fun _ _ _ _ _ _ r h => by simp [impl_ByPhases.l0] at h, fun _ _ _ _ _ _ _ _ _ _ r h => by simp [impl_ByPhases.l1] at h⟩
 | k + 1 => by
  obtain ⟨ih0, ih1, ih2⟩ := impl_ByPhases.mono_l k
  have m0 := @impl_isSignal.mono
  have m1 := @impl_isWeights.mono
  have m2 := @impl_phasesOf.mono
  have m3 := @impl_told.mono
  refine ⟨?_, ?_, ?_⟩ <;> intros
  ·unfold impl_ByPhases.j0; exact xM
  ·unfold impl_ByPhases.l0; exact xM
  ·unfold impl_ByPhases.l1; exact xM
theorem impl_ByPhases.mono : ∀ a0 a1 a2 a3 k, LeO (impl_ByPhases.f k a0 a1 a2 a3) (impl_ByPhases.f (k + 1) a0 a1 a2 a3) := by
 intro a0 a1 a2 a3 k
 obtain ⟨ih0, ih1, ih2⟩ := impl_ByPhases.mono_l k
 have m0 := @impl_isSignal.mono
 have m1 := @impl_isWeights.mono
 have m2 := @impl_phasesOf.mono
 have m3 := @impl_told.mono
 unfold impl_ByPhases.f
 exact xM
set_option maxHeartbeats 8000000 in
set_option maxRecDepth 100000 in
theorem impl_ByPhases.calls (k : Nat) (A0 : Option Addr) (c0 : Nat) (l0 : List Int) (A1 : Option Addr) (c1 : Nat) (l1 : List Int) (a2 : Int) (a3 : Int) (r1 : List Int) (r2 : Bool) (w : World) (hr0 : Kd.C (Kd.int .i64) w A0 l0.length l0) (hc0 : l0.length ≤ c0) (hr1 : Kd.C (Kd.int .i64) w A1 l1.length l1) (hc1 : l1.length ≤ c1) (h : impl_ByPhases.f k l0 l1 a2 a3 = some (r1, r2)) :
  Calls Try.prog 161 #[.slice A0 l0.length c0, .slice A1 l1.length c1, .int .i64 a2, .int .i64 a3] w fun e w' => ∃ v0_ : Value, e = .returned (.tuple #[v0_, .bool r2]) ∧ Kd.R (Kd.int .i64) 3 w' w.heap.size (fun _ => True) v0_ r1 ∧ Below w.heap.size w w' := by
 have HR0 := Aside0.mk hr0
 have HC0 := Aside0.mk hc0
 clear hr0 hc0
 have HR1 := Aside0.mk hr1
 have HC1 := Aside0.mk hc1
 clear hr1 hc1
 have HB := Aside0.mk (Below.refl w.heap.size w)
 have H : ((impl_isWeights.f k l0).bind fun t390 => (if t390 = true then ((impl_isSignal.f k l1).bind fun t391 => (if t391 = true then ((impl_isRatio.f a2 a3).bind fun t392 => (if t392 = true then (impl_ByPhases.j0 k l0 l1 a2 a3 (decide ((wrap64 ((l1.length : Int) * a2)) > 64))) else (impl_ByPhases.j0 k l0 l1 a2 a3 true))) else (impl_ByPhases.j0 k l0 l1 a2 a3 true))) else (impl_ByPhases.j0 k l0 l1 a2 a3 true))) = some (r1, r2) := h
 clear h
 have HC5 := Aside0.mk H
 clear H
 go_enter Try.func161, Try.ntmps161
 go_upto_region 1 with (fail)
 go_cut [36] (fun v36 wc => ∃ (kq : Nat) (x36_4 : Bool), v36 = .bool x36_4 ∧ Aside0 (impl_ByPhases.j0 kq l0 l1 a2 a3 x36_4 = some (r1, r2)) ∧ Aside0 (kq ≤ k) ∧ Aside0 (Below w.heap.size w wc))
 case first => as_aux_lemma =>
  have H := HC5.out
  clear HC5
  obtain ⟨t390, A6, H⟩ := xO H
  (try dsimp only at H)
  by_cases c7 : t390 = true
  rotate_left
  ·replace c7 := Bool.eq_false_iff.mpr c7
   subst c7
   rw [if_neg (show ¬ (false = true) by decide)] at H
   have H' := Aside0.mk H
   clear H
   go_wp2_with (first | (refine xG (some 17) Try.func259 #[.slice A0 l0.length c0] ?_; (with_reducible refine (impl_isWeights.calls k _ _ l0 false _ ?side1 ?side2 A6.out).mono ?_); (case side1 => exact xC (Kd.C_below HR0.out HB.out)); (case side2 => exact HC0.out); rintro e w' ⟨rfl, ⟨nd, rfl⟩⟩; refine ⟨_, rfl, ?_⟩))
   go_meet
   case rel => exact ⟨_, (true), (by first | rfl | (simp; done) | (simp [*]; done)), H', ⟨by first | omega | exact Nat.le_refl _⟩, ⟨xB HB.out⟩⟩
  subst c7
  rw [if_pos rfl] at H
  obtain ⟨t391, A8, H⟩ := xO H
  (try dsimp only at H)
  by_cases c9 : t391 = true
  rotate_left
  ·replace c9 := Bool.eq_false_iff.mpr c9
   subst c9
   rw [if_neg (show ¬ (false = true) by decide)] at H
   have H' := Aside0.mk H
   clear H
   go_wp2_with (first | (refine xG (some 17) Try.func259 #[.slice A0 l0.length c0] ?_; (with_reducible refine (impl_isWeights.calls k _ _ l0 true _ ?side1 ?side2 A6.out).mono ?_); (case side1 => exact xC (Kd.C_below HR0.out HB.out)); (case side2 => exact HC0.out); rintro e w' ⟨rfl, ⟨nd, rfl⟩⟩; refine ⟨_, rfl, ?_⟩) | (go_at_call 233; (with_reducible refine (impl_isSignal.calls k _ _ l1 false _ ?side1 ?side2 A8.out).mono ?_); (case side1 => repeat (first | exact (Kd.C_below HR1.out (xB HB.out)) | (with_reducible refine Kd.C_alloc ?_ _) | (with_reducible refine Kd.C_drewN ?_ _) | (with_reducible refine Kd.C_drew ?_))); (case side2 => exact HC1.out); rintro e w' ⟨rfl, ⟨nd, rfl⟩⟩))
   go_meet
   case rel => exact ⟨_, (true), (by first | rfl | (simp; done) | (simp [*]; done)), H', ⟨by first | omega | exact Nat.le_refl _⟩, ⟨xB HB.out⟩⟩
  subst c9
  rw [if_pos rfl] at H
  obtain ⟨t392, A10, H⟩ := xO H
  (try dsimp only at H)
  by_cases c11 : t392 = true
  ·subst c11
   rw [if_pos rfl] at H
   have H' := Aside0.mk H
   clear H
   go_wp2_with (first | (refine xG (some 17) Try.func259 #[.slice A0 l0.length c0] ?_; (with_reducible refine (impl_isWeights.calls k _ _ l0 true _ ?side1 ?side2 A6.out).mono ?_); (case side1 => exact xC (Kd.C_below HR0.out HB.out)); (case side2 => exact HC0.out); rintro e w' ⟨rfl, ⟨nd, rfl⟩⟩; refine ⟨_, rfl, ?_⟩) | (go_at_call 233; (with_reducible refine (impl_isSignal.calls k _ _ l1 true _ ?side1 ?side2 A8.out).mono ?_); (case side1 => repeat (first | exact (Kd.C_below HR1.out (xB HB.out)) | (with_reducible refine Kd.C_alloc ?_ _) | (with_reducible refine Kd.C_drewN ?_ _) | (with_reducible refine Kd.C_drew ?_))); (case side2 => exact HC1.out); rintro e w' ⟨rfl, ⟨nd, rfl⟩⟩) | (go_at_call 224; (with_reducible refine (impl_isRatio.calls a2 a3 true _ A10.out).mono ?_); rintro e w' ⟨rfl, ⟨nd, rfl⟩⟩))
   go_meet
   case rel => exact ⟨_, (decide ((wrap64 ((l1.length : Int) * a2)) > 64)), (by first | rfl | (simp; done) | (simp [*]; done)), H', ⟨by first | omega | exact Nat.le_refl _⟩, ⟨xB HB.out⟩⟩
  replace c11 := Bool.eq_false_iff.mpr c11
  subst c11
  rw [if_neg (show ¬ (false = true) by decide)] at H
  have H' := Aside0.mk H
  clear H
  go_wp2_with (first | (refine xG (some 17) Try.func259 #[.slice A0 l0.length c0] ?_; (with_reducible refine (impl_isWeights.calls k _ _ l0 true _ ?side1 ?side2 A6.out).mono ?_); (case side1 => exact xC (Kd.C_below HR0.out HB.out)); (case side2 => exact HC0.out); rintro e w' ⟨rfl, ⟨nd, rfl⟩⟩; refine ⟨_, rfl, ?_⟩) | (go_at_call 233; (with_reducible refine (impl_isSignal.calls k _ _ l1 true _ ?side1 ?side2 A8.out).mono ?_); (case side1 => repeat (first | exact (Kd.C_below HR1.out (xB HB.out)) | (with_reducible refine Kd.C_alloc ?_ _) | (with_reducible refine Kd.C_drewN ?_ _) | (with_reducible refine Kd.C_drew ?_))); (case side2 => exact HC1.out); rintro e w' ⟨rfl, ⟨nd, rfl⟩⟩) | (go_at_call 224; (with_reducible refine (impl_isRatio.calls a2 a3 false _ A10.out).mono ?_); rintro e w' ⟨rfl, ⟨nd, rfl⟩⟩))
  go_meet
  case rel => exact ⟨_, (true), (by first | rfl | (simp; done) | (simp [*]; done)), H', ⟨by first | omega | exact Nat.le_refl _⟩, ⟨xB HB.out⟩⟩
 case rest => as_aux_lemma =>
  clear HC5
  try clear c1
  obtain ⟨kq, x36_4, rfl, HA, HJ4, HB⟩ := hcut
  cases kq with
  | zero => exact absurd HA.out (by simp [impl_ByPhases.j0])
  | succ kj4 =>
   have H := HA.out
   clear HA
   simp only [impl_ByPhases.j0] at H
   by_cases c12 : x36_4 = true
   ·subst c12
    rw [if_pos rfl] at H
    simp only [Option.some.injEq, Prod.mk.injEq] at H
    obtain ⟨rfl, rfl⟩ := H
    go_wp2
    go_ret2
    exact ⟨_, by first | rfl | (simp [errW_none, errW_some] <;> rfl) | (simp [*, errW_none, errW_some] <;> rfl), by first | exact Kd.R_nil _ _ _ _ _ | exact Kd.N_nil _ _ _ _ _ | exact Kd.V_nil _ _ _ _ _ | exact Kd.Q_nil _ _ _ _ _ | exact Kd.S_nil _ _ _ _ _, xB HB.out⟩
   replace c12 := Bool.eq_false_iff.mpr c12
   subst c12
   rw [if_neg (show ¬ (false = true) by decide)] at H
   obtain ⟨t393, A13, H⟩ := xO H
   (try dsimp only at H)
   obtain ⟨y396, hy396⟩ : ∃ y_ : List Int, y_ = (([] : List Int)) := ⟨_, rfl⟩
   replace H : (impl_ByPhases.l0 kj4 l1 a2 a3 t393 y396 0) = some (r1, r2) := by first | (rw [hy396]; with_reducible exact H) | (have H2_ := (Option.bind_some _ _).symm.trans H; rw [hy396]; with_reducible exact H2_) | (have H2_ := (Option.bind_some _ _).symm.trans H; with_reducible exact H2_) | with_reducible exact H | (rw [hy396]; exact H) | exact H
   have Ny396 := Aside0.mk hy396
   clear hy396
   have H' := Aside0.mk H
   clear H
   go_wp2_with (first | (refine xG (some 39) Try.func353 #[.slice A0 l0.length c0, .int .i64 a2] ?_; (with_reducible refine (impl_phasesOf.calls kj4 _ _ l0 a2 t393 _ ?side1 ?side2 A13.out).mono ?_); (case side1 => exact xC (Kd.C_below HR0.out HB.out)); (case side2 => exact HC0.out); rintro e w14 ⟨v394, rfl, ho0, hb⟩; refine ⟨_, rfl, ?_⟩; have HO395 := Aside0.mk (Kd.S_lower ho0 (below_size (xB HB.out))); replace HB := Aside0.mk (below_step (xB HB.out) hb); (try clear hb); (try clear hb2); (try clear hk); (try clear hi); (try clear ho0)) | ((with_reducible refine gate_dst (N := 40) rfl ?_); (try (refine gate_guard (by rfl) ?_; dsimp only)); refine Kd.R_lit (Kd.int .i64) _ 3 ?hg (N := 40) ?hd (xs := ([] : List Int)) (inner := []) (ok := fun _ => True) (okp := fun _ => True) ?hr ?hp (fun _ hk => hk) trivial (Below.refl _ _) (Nat.le_refl _) (by simp) ?_; (case hd => rfl); (case hg => rfl); (case hr => first | (go_simp; done) | (go_simp; rfl)); (case hp => exact (Reps.none _ _)); intro v397 w15 ho16 hb hg_ hnew_; clear hg_ hnew_; (first | rw [← Ny396.out] at ho16 | (simp only [Int.reduceToNat] at ho16; rw [← Ny396.out] at ho16)); replace HO395 := Aside0.mk (Kd.S_elder' (xS HO395.out) (Kd.R_base ho16) hb); have HO398 := Aside0.mk (Kd.R_lower ho16 (below_size (xB HB.out))); replace HB := Aside0.mk (below_step (xB HB.out) hb); clear hb ho16))
   go_loopg [11, 12] kj4 (fun kq v11 v12 w' => ∃ (x11_2 : List Int) (x12_2 : Int), v12 = .int .i64 x12_2 ∧ Aside0 (impl_ByPhases.l0 kq l1 a2 a3 t393 x11_2 x12_2 = some (r1, r2)) ∧ Aside0 (kq ≤ kj4) ∧ Aside0 (Kd.S (Kd.slice 3 (Kd.int .i64)) 24 w' w.heap.size (fun k_ => some k_ ≠ (v11 : Value).ownBlock) v394 t393) ∧ Aside0 (Kd.R (Kd.int .i64) 3 w' w.heap.size (fun _ => True) v11 x11_2) ∧ Aside0 (Below w.heap.size w w'))
   case atStart => exact ⟨(y396), (0), (by first | rfl | (simp; done) | (simp [*]; done)), H', ⟨Nat.le_refl _⟩, ⟨by (with_reducible repeat (first | apply Kd.S_alloc | apply Kd.S_drewN | apply Kd.S_drew)); exact Kd.S_mono HO395.out (fun _ hk => hk.2)⟩, ⟨xR HO398.out⟩, ⟨xB HB.out⟩⟩
   case round =>
    clear H'
    try clear c12
    obtain ⟨x11_2, x12_2, rfl, HA, HK2, HO_10, HO_11, HB⟩ := hrel
    cases gk with
    | zero => exact absurd HA.out (by simp [impl_ByPhases.l0])
    | succ k2 =>
     have H := HA.out
     clear HA
     simp only [impl_ByPhases.l0] at H
     by_cases c17 : x12_2 < (wrap64 ((l1.length : Int) * a2))
     rotate_left
     ·rw [if_neg c17] at H
      have c17b0 : decide (x12_2 < (wrap64 ((l1.length : Int) * a2))) = false := decide_eq_false c17
      clear c17
      replace H := Option.bind_eq_some_iff.mp H
      obtain ⟨⟨t399, t402⟩, A300, H⟩ := H
      (try dsimp only at H)
      have A30 := Aside0.mk A300
      clear A300
      simp only [Option.some.injEq, Prod.mk.injEq] at H
      obtain ⟨rfl, rfl⟩ := H
      obtain ⟨Ao31, co31, eo31⟩ := Kd.R_slice HO_11.out
      subst eo31
      go_wp2_with (first | (refine xG (some 79) Try.func239 #[.slice Ao31 x11_2.length co31] ?_; (with_reducible refine (impl_told.calls k2 (fun k_ => some k_ = (.slice Ao31 x11_2.length co31 : Value).ownBlock) (.slice Ao31 x11_2.length co31) x11_2 t399 t402 w _ ?side1 ?side2 A30.out).mono ?_); (case side1 => repeat (first | (with_reducible first | exact HB.out | apply below_alloc | apply pw_below_drewN | apply below_drew1) | exact HB.out)); (case side2 => exact Kd.R_tight rfl HO_11.out); rintro e w32 ⟨v400, rfl, ho0, hb, hkp⟩; refine ⟨_, rfl, ?_⟩; replace HO_10 := Aside0.mk (Kd.S_mono (ok' := fun k_ => some k_ ≠ (v400 : Value).ownBlock) (Kd.S_keptB (HO_10.out) hkp (fun k_ hk_ hs_ => (hk_) hs_)) (fun k_ hk_ => fun e_ => Or.elim (ho0.1 k_ e_.symm) (fun hs_ => hk_.2.1 hs_) (fun hn_ => Nat.not_le.2 hk_.2.2 hn_))); have HO401 := Aside0.mk (Kd.R_mono (ok' := fun k_ => True) ho0 (fun k_ hk_ => trivial)); replace HB := Aside0.mk (hb); clear HO_11; (try clear hb); (try clear hkp); (try clear ho0)))
      go_ret2
      exact ⟨_, by first | rfl | (simp [errW_none, errW_some] <;> rfl) | (simp [*, errW_none, errW_some] <;> rfl), xR HO401.out, xB HB.out⟩

     rw [if_pos c17] at H
     have c17b0 : decide (x12_2 < (wrap64 ((l1.length : Int) * a2))) = true := decide_eq_true c17
     clear c17
     by_cases c18 : a2 = 0
     ·rw [if_pos c18] at H
      exact absurd H (by simp)
     rw [if_neg c18] at H
     have c18b0 : (a2 == 0) = false := beq_eq_false_iff_ne.mpr c18
     have c18b1 : (a2 != 0) = true := bne_iff_ne.mpr c18
     obtain ⟨ji19, hji19⟩ : ∃ j_ : Int, (Int.tmod x12_2 a2) = j_ := ⟨_, rfl⟩
     replace H : (if 0 ≤ (ji19) then (if (ji19) < (t393.length : Int) then (impl_ByPhases.l1 k2 l1 a2 a3 t393 x11_2 x12_2 0 (rd_L2 t393 (ji19)) ((rd_L2 t393 (ji19)).length : Int) 0) else (none)) else (none)) = some (r1, r2) := by first | (rw [hji19] at H; exact H) | (simp only [hji19] at H ⊢; exact H)
     by_cases c20 : 0 ≤ (ji19)
     rotate_left
     ·rw [if_neg c20] at H
      exact absurd H (by simp)
     rw [if_pos c20] at H
     have c20b0 : decide (0 ≤ (ji19)) = true := decide_eq_true c20
     clear c20
     by_cases c21 : (ji19) < (t393.length : Int)
     rotate_left
     ·rw [if_neg c21] at H
      exact absurd H (by simp)
     rw [if_pos c21] at H
     have c21b0 : decide ((ji19) < (t393.length : Int)) = true := decide_eq_true c21
     clear c21
     have H' := Aside0.mk H
     clear H
     obtain ⟨Ao22, co22, eo22⟩ := Kd.S_slice HO_10.out
     subst eo22
     have p403 : 0 ≤ ((ji19) : Int) := of_decide_eq_true (by first | (with_reducible assumption) | assumption | (rw [← hji19]; first | (with_reducible assumption) | assumption))
     have q403 : (ji19) < (t393.length : Int) := of_decide_eq_true (by first | (with_reducible assumption) | assumption | (rw [← hji19]; first | (with_reducible assumption) | assumption))
     obtain ⟨ad403, A403_0, c403_0, e403, hx403_0, hl403_0, hi403_0⟩ := at_L2 (Kd.S_reads' HO_10.out).2.2 (ji19) p403 q403
     cases e403
     obtain ⟨ce403, hce403, hMe403, hcc403⟩ := Kd.S_get HO_10.out [] (ji19) p403 (by first | exact q403 | exact of_decide_eq_true (by first | (with_reducible assumption) | assumption) | (have e_ := (Kd.S_reads' HO_10.out).1; omega))
     obtain ⟨ve403_0, rfl, ge403_0⟩ := hMe403
     have hv403_0 := hcc403 0 _ rfl
     rw [Nat.add_zero, show ((Kd.slice 3 (Kd.int .i64))).sz = 1 from rfl, Nat.mul_one] at hv403_0
     replace hv403_0 := Option.some.inj (hv403_0.symm.trans hx403_0)
     rw [hv403_0] at ge403_0
     have HL403_0 := Aside0.mk (show Kd.R (Kd.int .i64) 3 _ _ _ _ (rd_L2 t393 (ji19)) from ge403_0)
     clear hv403_0 ge403_0
     clear hcc403 hce403
     have HR403_0 := Aside0.mk hi403_0
     have HC403_0 := Aside0.mk hl403_0
     clear hi403_0 hl403_0
     replace p403 := eq_true p403
     replace q403 := eq_true q403
     go_wp2
     go_loopg [13, 57] k2 (fun kq v13 v57 w' => ∃ (x13_3 : Int) (x57_3 : Int), v13 = .int .i64 x13_3 ∧ v57 = .int .i64 x57_3 ∧ Aside0 (impl_ByPhases.l1 kq l1 a2 a3 t393 x11_2 x12_2 x13_3 (rd_L2 t393 (ji19)) ((rd_L2 t393 (ji19)).length : Int) x57_3 = some (r1, r2)) ∧ Aside0 (kq ≤ k2) ∧ Aside0 (Kd.S (Kd.slice 3 (Kd.int .i64)) 24 w' w.heap.size (fun k_ => some k_ ≠ (u11 : Value).ownBlock) (.slice (some ad403) t393.length co22) t393) ∧ Aside0 (Kd.R (Kd.int .i64) 3 w' w.heap.size (fun _ => True) u11 x11_2) ∧ Aside0 (Kd.C (Kd.int .i64) w' A403_0 (rd_L2 t393 (ji19)).length (rd_L2 t393 (ji19))) ∧ Aside0 (Below w.heap.size w w'))
     case atStart => exact ⟨(0), (0), (by first | rfl | (simp; done) | (simp [*]; done)), (by first | rfl | (simp; done) | (simp [*]; done)), H', ⟨Nat.le_refl _⟩, ⟨xS HO_10.out⟩, ⟨xR HO_11.out⟩, ⟨by repeat (first | (with_reducible exact HR403_0.out) | (with_reducible refine Kd.C_alloc ?_ _) | (with_reducible refine Kd.C_drewN ?_ _) | (with_reducible refine Kd.C_drew ?_) | exact HR403_0.out)⟩, ⟨xB HB.out⟩⟩
     case round =>
      clear H'
      try clear c17b0
      try clear c18
      try clear c18b0
      try clear c18b1
      try clear c20b0
      try clear c21b0
      try clear hx403_0
      try clear p403
      try clear q403
      obtain ⟨x13_3, x57_3, rfl, rfl, HA, HK3, HO_10, HO_11, HR403_0, HB⟩ := hrel
      cases gk with
      | zero => exact absurd HA.out (by simp [impl_ByPhases.l1])
      | succ k3 =>
       have H := HA.out
       clear HA
       simp only [impl_ByPhases.l1] at H
       by_cases c23 : x57_3 < ((rd_L2 t393 (ji19)).length : Int)
       rotate_left
       ·rw [if_neg c23] at H
        have c23b0 : decide (x57_3 < ((rd_L2 t393 (ji19)).length : Int)) = false := decide_eq_false c23
        clear c23
        by_cases c28 : x11_2.length < 17592186044416
        rotate_left
        ·rw [if_neg c28] at H
         exact absurd H (by simp)
        rw [if_pos c28] at H
        have LMc28 := Aside0.mk c28
        clear c28
        obtain ⟨y406, hy406⟩ : ∃ y_ : List Int, y_ = (x11_2 ++ [x13_3]) := ⟨_, rfl⟩
        replace H : (impl_ByPhases.l0 k3 l1 a2 a3 t393 y406 (wrap64 (x12_2 + a3))) = some (r1, r2) := by first | (rw [hy406]; with_reducible exact H) | (have H2_ := (Option.bind_some _ _).symm.trans H; rw [hy406]; with_reducible exact H2_) | (have H2_ := (Option.bind_some _ _).symm.trans H; with_reducible exact H2_) | with_reducible exact H | (rw [hy406]; exact H) | exact H
        have Ny406 := Aside0.mk hy406
        clear hy406
        have H' := Aside0.mk H
        clear H
        go_wp2_with (first | ((with_reducible refine gate_builtin (b := .append) (xs := #[.tmp 74, .tmp 76]) rfl ?_); (try (refine gate_guard (by rfl) ?_; dsimp only)); at_builtin; refine Kd.R_append (Kd.int .i64) (w0 := w) w.heap.size rfl (.tmp 74) (.tmp 76) 24 3 (.int .i64 0) 8 rfl Try.underlying24 info3 rfl (by decide) (by omega) u11 x11_2 x13_3 [.int .i64 x13_3] (fun _ => True) (fun _ => False) rfl rfl ?aP (fun _ hk => hk.elim) ?aF ?aO ?aB ?aS ?aL ?_; (case aP => exact rfl); (case aB => exact (xB HB.out)); (case aF => exact (fun _ _ => trivial)); (case aO => exact (xR HO_11.out)); (case aS => exact (below_size (xB HB.out))); (case aL => have := LMc28.out; omega); intro v407 w29 ho hb hg hat; rw [← Ny406.out] at ho; replace HO_10 := Aside0.mk (Kd.S_after (ok := (fun _ => True)) (by (with_reducible repeat (first | apply Kd.S_alloc | apply Kd.S_drewN | apply Kd.S_drew)); exact Kd.S_mono HO_10.out (fun _ hk => ⟨trivial, hk⟩)) hg hat); replace HB := Aside0.mk (hb); have HO408 := Aside0.mk (ho); clear HO_11; clear ho hb hg hat))
        go_roundg k3
        case measure => have := HJ4.out; have := HK2.out; have := HK3.out; omega
        case rel => exact ⟨(y406), (wrap64 (x12_2 + a3)), (by first | rfl | (simp; done) | (simp [*]; done)), H', ⟨by have := HJ4.out; have := HK2.out; have := HK3.out; omega⟩, ⟨by (with_reducible repeat (first | apply Kd.S_alloc | apply Kd.S_drewN | apply Kd.S_drew)); exact Kd.S_mono HO_10.out (fun _ hk => hk.2)⟩, ⟨xR HO408.out⟩, ⟨xB HB.out⟩⟩
       rw [if_pos c23] at H
       have c23b0 : decide (x57_3 < ((rd_L2 t393 (ji19)).length : Int)) = true := decide_eq_true c23
       clear c23
       by_cases c24 : 0 ≤ x57_3
       rotate_left
       ·rw [if_neg c24] at H
        exact absurd H (by simp)
       rw [if_pos c24] at H
       have c24b0 : decide (0 ≤ x57_3) = true := decide_eq_true c24
       clear c24
       by_cases c25 : x57_3 < ((rd_L2 t393 (ji19)).length : Int)
       rotate_left
       ·rw [if_neg c25] at H
        exact absurd H (by simp)
       rw [if_pos c25] at H
       have c25b0 : decide (x57_3 < ((rd_L2 t393 (ji19)).length : Int)) = true := decide_eq_true c25
       clear c25
       by_cases c26 : a2 = 0
       ·rw [if_pos c26] at H
        exact absurd H (by simp)
       rw [if_neg c26] at H
       have c26b0 : (a2 == 0) = false := beq_eq_false_iff_ne.mpr c26
       have c26b1 : (a2 != 0) = true := bne_iff_ne.mpr c26
       obtain ⟨t405, A27, H⟩ := xO H
       (try dsimp only at H)
       have H' := Aside0.mk H
       clear H
       have p404 : 0 ≤ (x57_3 : Int) := of_decide_eq_true (by first | (with_reducible assumption) | assumption)
       have q404 : x57_3 < ((rd_L2 t393 (ji19)).length : Int) := of_decide_eq_true (by first | (with_reducible assumption) | assumption | (rw [← hji19]; first | (with_reducible assumption) | assumption))
       obtain ⟨ad404, e404, hx404_0⟩ := Kd.at_int HR403_0.out x57_3 p404 q404
       cases e404
       (try replace hx404_0 := (HB.out.cell (World.block_lt_of_cell? w _ hx404_0)).trans hx404_0)
       replace p404 := eq_true p404
       replace q404 := eq_true q404
       go_wp2_with (first | (refine xG (some 70) Try.func279 #[.slice A1 l1.length c1, .int .i64 (wrap64 ((wrap64 (Int.tdiv x12_2 a2)) - x57_3))] ?_; (with_reducible refine (impl_at.calls _ _ l1 (wrap64 ((wrap64 (Int.tdiv x12_2 a2)) - x57_3)) t405 _ ?side1 ?side2 A27.out).mono ?_); (case side1 => exact xC (Kd.C_below HR1.out HB.out)); (case side2 => exact HC1.out); rintro e w' ⟨rfl, ⟨nd, rfl⟩⟩; refine ⟨_, rfl, ?_⟩))
       go_roundg k3
       case measure => have := HJ4.out; have := HK2.out; have := HK3.out; omega
       case rel => exact ⟨(wrap64 (x13_3 + (wrap64 ((rd (rd_L2 t393 (ji19)) x57_3) * t405)))), (wrap64 (x57_3 + 1)), (by first | rfl | (simp; done) | (simp only [← hji19] <;> (first | rfl | simp)) | (simp [*]; done)), (by first | rfl | (simp; done) | (simp [*]; done)), H', ⟨by have := HJ4.out; have := HK2.out; have := HK3.out; omega⟩, ⟨xS HO_10.out⟩, ⟨xR HO_11.out⟩, ⟨by repeat (first | (with_reducible exact HR403_0.out) | (with_reducible refine Kd.C_alloc ?_ _) | (with_reducible refine Kd.C_drewN ?_ _) | (with_reducible refine Kd.C_drew ?_) | exact HR403_0.out)⟩, ⟨xB HB.out⟩⟩
/-! ### spec_rsLength: function 218 -/
def spec_rsLength.f (a0 : Int) (a1 : Int) (a2 : Int) : Option (Int) := if a2 = 0 then (none) else (some (wrap64 (Int.tdiv (wrap64 ((wrap64 ((wrap64 (a0 * a1)) + a2)) - 1)) a2)))
set_option maxHeartbeats 8000000 in
set_option maxRecDepth 100000 in
theorem spec_rsLength.calls (a0 : Int) (a1 : Int) (a2 : Int) (r : Int) (w : World) (h : spec_rsLength.f a0 a1 a2 = some r) :
  Calls Try.prog 218 #[.int .i64 a0, .int .i64 a1, .int .i64 a2] w fun e w' => e = .returned (.int .i64 r) ∧ Drawn0 w w' := by
 have H : (if a2 = 0 then (none) else (some (wrap64 (Int.tdiv (wrap64 ((wrap64 ((wrap64 (a0 * a1)) + a2)) - 1)) a2)))) = some r := h
 clear h
 by_cases c4 : a2 = 0
 ·rw [if_pos c4] at H
  exact absurd H (by simp)
 rw [if_neg c4] at H
 have c4b0 : (a2 == 0) = false := beq_eq_false_iff_ne.mpr c4
 have c4b1 : (a2 != 0) = true := bne_iff_ne.mpr c4
 obtain rfl := Option.some.inj H
 go_enter Try.func218, Try.ntmps218
 go_wp2
 go_ret
 exact ⟨by first | rfl | (simp; done) | (simp [*]; done), by repeat (first | exact Drawn0.refl _ | apply Drawn0.step)⟩

/-! ### spec_rsPhases: function 357 -/
def spec_rsPhases.l0 : Nat → Int → List (List Int) → List Int → Int → Int → Option ((List (List Int)))
 | 0, _, _, _, _, _ => none
 | k + 1, x1, x5, x10, x11, x12 => if x12 < x11 then (if 0 ≤ x12 then (if x12 < (x10.length : Int) then (if x1 = 0 then (none) else (if 0 ≤ (Int.tmod x12 x1) then (if (Int.tmod x12 x1) < (x5.length : Int) then (if (rd_L2 x5 (Int.tmod x12 x1)).length < 17592186044416 then (spec_rsPhases.l0 k x1 (x5.set ((Int.tmod x12 x1) : Int).toNat ((rd_L2 x5 (Int.tmod x12 x1)) ++ [rd x10 x12])) x10 x11 (wrap64 (x12 + 1))) else (none)) else (none)) else (none))) else (none)) else (none)) else (some x5)
def spec_rsPhases.f (k : Nat) (l0 : List Int) (a1 : Int) : Option ((List (List Int))) := if 0 ≤ a1 then (if (a1 : Int).toNat ≤ 11728124029610 then (spec_rsPhases.l0 k a1 (List.replicate (a1 : Int).toNat []) l0 (l0.length : Int) 0) else (none)) else (none)
theorem spec_rsPhases.mono_l : ∀ k, (∀ y0 y1 y2 y3 y4, LeO (spec_rsPhases.l0 k y0 y1 y2 y3 y4) (spec_rsPhases.l0 (k + 1) y0 y1 y2 y3 y4))
 | 0 => fun _ _ _ _ _ r h => by simp [spec_rsPhases.l0] at h
 | k + 1 => by
  have ih0 := spec_rsPhases.mono_l k
  intros
  unfold spec_rsPhases.l0
  exact xM
theorem spec_rsPhases.mono : ∀ a0 a1 k, LeO (spec_rsPhases.f k a0 a1) (spec_rsPhases.f (k + 1) a0 a1) := by
 intro a0 a1 k
 have ih0 := spec_rsPhases.mono_l k
 unfold spec_rsPhases.f
 exact xM
def spec_rsPhases.T5 : Bool × List (List Nat × List Nat) := (true, [([], []), ([], []), ([], []), ([1, 2], [1, 2]), ([], []), ([], []), ([], []), ([5, 6], [5, 6]), ([4, 7], [4, 7]), ([8], [8]), ([], []), ([10], [10]), ([9, 11], [9, 11]), ([0, 3, 0, 1, 2, 3, 4, 5, 6, 7, 8, 9, 10, 11, 12], [0, 3]), ([13, 12, 12, 0, 1, 2, 3, 4, 5, 6, 7, 8, 9, 10, 11, 12], [12, 13])])
def spec_rsPhases.B5 : List Nat := [0, 0, 0, 6, 0, 0, 0, 96, 240, 496, 0, 1024, 4080, 8191, 16383]
theorem spec_rsPhases.tab5 : rtab .any (opsOf Try.f357 5) = spec_rsPhases.T5 := by kernel_rfl
theorem spec_rsPhases.bits5 : waitsOk spec_rsPhases.T5.2 spec_rsPhases.B5 = true := by kernel_rfl
set_option maxHeartbeats 8000000 in
set_option maxRecDepth 100000 in
theorem spec_rsPhases.calls (k : Nat) (A0 : Option Addr) (c0 : Nat) (l0 : List Int) (a1 : Int) (r : List (List Int)) (w : World) (hr0 : Kd.C (Kd.int .i64) w A0 l0.length l0) (hc0 : l0.length ≤ c0) (h : spec_rsPhases.f k l0 a1 = some r) :
  Calls Try.prog 357 #[.slice A0 l0.length c0, .int .i64 a1] w fun e w' => ∃ v0_ : Value, e = .returned (v0_) ∧ Kd.S (Kd.slice 3 (Kd.int .i64)) 24 w' w.heap.size (fun _ => True) v0_ r ∧ Below w.heap.size w w' := by
 have HR0 := Aside0.mk hr0
 have HC0 := Aside0.mk hc0
 clear hr0 hc0
 have HB := Aside0.mk (Below.refl w.heap.size w)
 have H : (if 0 ≤ a1 then (if (a1 : Int).toNat ≤ 11728124029610 then (spec_rsPhases.l0 k a1 (List.replicate (a1 : Int).toNat []) l0 (l0.length : Int) 0) else (none)) else (none)) = some r := h
 clear h
 by_cases c3 : 0 ≤ a1
 rotate_left
 ·rw [if_neg c3] at H
  exact absurd H (by simp)

 rw [if_pos c3] at H
 have c3b0 := eq_true c3
 have c3b1 : decide (0 ≤ a1) = true := decide_eq_true c3
 clear c3
 by_cases c4 : (a1 : Int).toNat ≤ 11728124029610
 rotate_left
 ·rw [if_neg c4] at H
  exact absurd H (by simp)
 rw [if_pos c4] at H
 have c4b0 := eq_true c4
 have c4b1 : decide ((a1 : Int).toNat ≤ 11728124029610) = true := decide_eq_true c4
 clear c4
 obtain ⟨y409, hy409⟩ : ∃ y_ : List (List Int), y_ = (List.replicate (a1 : Int).toNat []) := ⟨_, rfl⟩
 replace H : (spec_rsPhases.l0 k a1 y409 l0 (l0.length : Int) 0) = some r := by first | (rw [hy409]; with_reducible exact H) | (have H2_ := (Option.bind_some _ _).symm.trans H; rw [hy409]; with_reducible exact H2_) | (have H2_ := (Option.bind_some _ _).symm.trans H; with_reducible exact H2_) | with_reducible exact H | (rw [hy409]; exact H) | exact H
 have Ny409 := Aside0.mk hy409
 clear hy409
 have H' := Aside0.mk H
 clear H
 go_enter Try.func357, Try.ntmps357
 go_wp2_with (first | ((with_reducible refine gate_dst (N := 9) rfl ?_); refine Kd.S_make (Kd.slice 3 (Kd.int .i64)) _ 24 rfl (N := 9) rfl 77 _ _ rfl a1 rfl rfl Try.underlying77 (.slice none 0 0) 24 info24 rfl (by decide) (by omega) [] (ok := fun _ => True) (okp := fun _ => True) ⟨_, rfl, Kd.R_nil _ _ _ _ _⟩ (fun _ hk => hk) trivial (of_decide_eq_true (by first | (with_reducible assumption) | assumption)) (Nat.le_trans (Nat.mul_le_mul_right _ (of_decide_eq_true (by first | (with_reducible assumption) | assumption) : a1.toNat ≤ 11728124029610)) (by omega)) (Below.refl _ _) (Nat.le_refl _) ?_; intro v410 w5 ho6 hb hg_ hnew_; clear hg_ hnew_; (first | rw [← Ny409.out] at ho6 | (simp only [Int.reduceToNat] at ho6; rw [← Ny409.out] at ho6)); have HO411 := Aside0.mk (Kd.S_lower ho6 (below_size (xB HB.out))); replace HB := Aside0.mk (below_step (xB HB.out) hb); clear hb ho6))
 go_loopg [12] k (fun kq v12 w' => ∃ (x5_1 : List (List Int)) (x12_1 : Int), v12 = .int .i64 x12_1 ∧ Aside0 (spec_rsPhases.l0 kq a1 x5_1 l0 (l0.length : Int) x12_1 = some r) ∧ Aside0 (kq ≤ k) ∧ Aside0 (Kd.S (Kd.slice 3 (Kd.int .i64)) 24 w' w.heap.size (fun _ => True) v410 x5_1) ∧ Aside0 (Below w.heap.size w w'))
 case atStart => exact ⟨(y409), (0), (by first | rfl | (simp; done) | (simp [*]; done)), H', ⟨Nat.le_refl _⟩, ⟨xS HO411.out⟩, ⟨xB HB.out⟩⟩
 case round =>
  clear H'
  try clear c3b0
  try clear c3b1
  try clear c4b0
  try clear c4b1
  obtain ⟨x5_1, x12_1, rfl, HA, HK1, HO_5, HB⟩ := hrel
  cases gk with
  | zero => exact absurd HA.out (by simp [spec_rsPhases.l0])
  | succ k1 =>
   have H := HA.out
   clear HA
   simp only [spec_rsPhases.l0] at H
   by_cases c7 : x12_1 < (l0.length : Int)
   rotate_left
   ·rw [if_neg c7] at H
    have c7b0 : decide (x12_1 < (l0.length : Int)) = false := decide_eq_false c7
    clear c7
    obtain rfl := Option.some.inj H
    go_wp2
    go_ret
    exact ⟨_, by first | rfl | (simp [errW_none, errW_some] <;> rfl) | (simp [*, errW_none, errW_some] <;> rfl), xS HO_5.out, xB HB.out⟩
   rw [if_pos c7] at H
   have c7b0 : decide (x12_1 < (l0.length : Int)) = true := decide_eq_true c7
   clear c7
   by_cases c8 : 0 ≤ x12_1
   rotate_left
   ·rw [if_neg c8] at H
    exact absurd H (by simp)
   rw [if_pos c8] at H
   have c8b0 : decide (0 ≤ x12_1) = true := decide_eq_true c8
   clear c8
   by_cases c9 : x12_1 < (l0.length : Int)
   rotate_left
   ·rw [if_neg c9] at H
    exact absurd H (by simp)
   rw [if_pos c9] at H
   have c9b0 : decide (x12_1 < (l0.length : Int)) = true := decide_eq_true c9
   clear c9
   by_cases c10 : a1 = 0
   ·rw [if_pos c10] at H
    exact absurd H (by simp)
   rw [if_neg c10] at H
   have c10b0 : (a1 == 0) = false := beq_eq_false_iff_ne.mpr c10
   have c10b1 : (a1 != 0) = true := bne_iff_ne.mpr c10
   obtain ⟨ji11, hji11⟩ : ∃ j_ : Int, (Int.tmod x12_1 a1) = j_ := ⟨_, rfl⟩
   replace H : (if 0 ≤ (ji11) then (if (ji11) < (x5_1.length : Int) then (if (rd_L2 x5_1 (ji11)).length < 17592186044416 then (spec_rsPhases.l0 k1 a1 (x5_1.set ((ji11) : Int).toNat ((rd_L2 x5_1 (ji11)) ++ [rd l0 x12_1])) l0 (l0.length : Int) (wrap64 (x12_1 + 1))) else (none)) else (none)) else (none)) = some r := by first | (rw [hji11] at H; exact H) | (simp only [hji11] at H ⊢; exact H)
   by_cases c12 : 0 ≤ (ji11)
   rotate_left
   ·rw [if_neg c12] at H
    exact absurd H (by simp)
   rw [if_pos c12] at H
   have c12b0 : decide (0 ≤ (ji11)) = true := decide_eq_true c12
   clear c12
   by_cases c13 : (ji11) < (x5_1.length : Int)
   rotate_left
   ·rw [if_neg c13] at H
    exact absurd H (by simp)
   rw [if_pos c13] at H
   have c13b0 : decide ((ji11) < (x5_1.length : Int)) = true := decide_eq_true c13
   clear c13
   by_cases c14 : (rd_L2 x5_1 (ji11)).length < 17592186044416
   rotate_left
   ·rw [if_neg c14] at H
    exact absurd H (by simp)
   rw [if_pos c14] at H
   have LMc14 := Aside0.mk c14
   clear c14
   obtain ⟨y414, hy414⟩ : ∃ y_ : List Int, y_ = ((rd_L2 x5_1 (ji11)) ++ [rd l0 x12_1]) := ⟨_, rfl⟩
   replace H : (spec_rsPhases.l0 k1 a1 (x5_1.set ((ji11) : Int).toNat y414) l0 (l0.length : Int) (wrap64 (x12_1 + 1))) = some r := by first | (rw [hy414]; with_reducible exact H) | (have H2_ := (Option.bind_some _ _).symm.trans H; rw [hy414]; with_reducible exact H2_) | (have H2_ := (Option.bind_some _ _).symm.trans H; with_reducible exact H2_) | with_reducible exact H | (rw [hy414]; exact H) | exact H
   have Ny414 := Aside0.mk hy414
   clear hy414
   obtain ⟨y417, hy417⟩ : ∃ y_ : List (List Int), y_ = (x5_1.set ((ji11) : Int).toNat y414) := ⟨_, rfl⟩
   replace H : (spec_rsPhases.l0 k1 a1 y417 l0 (l0.length : Int) (wrap64 (x12_1 + 1))) = some r := by first | (rw [hy417]; with_reducible exact H) | (have H2_ := (Option.bind_some _ _).symm.trans H; rw [hy417]; with_reducible exact H2_) | (have H2_ := (Option.bind_some _ _).symm.trans H; with_reducible exact H2_) | with_reducible exact H | (rw [hy417]; exact H) | exact H
   have Ny417 := Aside0.mk hy417
   clear hy417
   have H' := Aside0.mk H
   clear H
   have p412 : 0 ≤ (x12_1 : Int) := of_decide_eq_true (by first | (with_reducible assumption) | assumption)
   have q412 : x12_1 < (l0.length : Int) := of_decide_eq_true (by first | (with_reducible assumption) | assumption)
   obtain ⟨ad412, e412, hx412_0⟩ := Kd.at_int HR0.out x12_1 p412 q412
   cases e412
   replace hx412_0 := (HB.out.cell (World.block_lt_of_cell? w _ hx412_0)).trans hx412_0
   replace p412 := eq_true p412
   replace q412 := eq_true q412
   try go_wp2
   have n0_ := Aside0.mk (Kd.S_drew HO_5.out)
   have n1_ := Aside0.mk (below_drew1 HB.out)
   clear HO_5
   clear HB
   have HO_5 := n0_
   have HB := n1_
   clear n0_ n1_
   obtain ⟨Ao17, co17, eo17⟩ := Kd.S_slice HO_5.out
   (first | subst eo17 | (injection eo17 with f1_ f2_ f3_; have f4_ := f1_.symm; have f5_ := f3_.symm; clear f1_ f2_ f3_; subst f4_; subst f5_))
   have p413 : 0 ≤ ((ji11) : Int) := of_decide_eq_true (by first | (with_reducible assumption) | assumption | (rw [← hji11]; first | (with_reducible assumption) | assumption))
   have q413 : (ji11) < (x5_1.length : Int) := of_decide_eq_true (by first | (with_reducible assumption) | assumption | (rw [← hji11]; first | (with_reducible assumption) | assumption))
   obtain ⟨ad413, A413_0, c413_0, e413, hx413_0, hl413_0, hi413_0⟩ := at_L2 (Kd.S_reads' HO_5.out).2.2 (ji11) p413 q413
   cases e413
   obtain ⟨ce413, hce413, hMe413, hcc413⟩ := Kd.S_get HO_5.out [] (ji11) p413 (by first | exact q413 | exact of_decide_eq_true (by first | (with_reducible assumption) | assumption) | (have e_ := (Kd.S_reads' HO_5.out).1; omega))
   obtain ⟨ve413_0, rfl, ge413_0⟩ := hMe413
   have hv413_0 := hcc413 0 _ rfl
   rw [Nat.add_zero, show ((Kd.slice 3 (Kd.int .i64))).sz = 1 from rfl, Nat.mul_one] at hv413_0
   replace hv413_0 := Option.some.inj (hv413_0.symm.trans hx413_0)
   rw [hv413_0] at ge413_0
   have HL413_0 := Aside0.mk (show Kd.R (Kd.int .i64) 3 _ _ _ _ (rd_L2 x5_1 (ji11)) from ge413_0)
   clear hv413_0 ge413_0
   have HX413_0 := Aside0.mk hx413_0
   clear hcc413 hce413
   have HR413_0 := Aside0.mk hi413_0
   have HC413_0 := Aside0.mk hl413_0
   clear hi413_0 hl413_0
   replace p413 := eq_true p413
   replace q413 := eq_true q413
   obtain ⟨go18, co18, eo18, gb18, gl18, cl18, HG18⟩ := Kd.S_form HO_5.out (by have h_ : ((ji11) : Int) < ((x5_1.length : Int) : Int) := of_decide_eq_true (by first | (with_reducible assumption) | assumption); have h2_ : 0 ≤ ((ji11) : Int) := (of_decide_eq_true (by first | (with_reducible assumption) | assumption)); omega)
   (first | cases eo18 | (injection eo18 with ea_ en_ ec_; (first | subst ea_ | (injection ea_ with ea_; subst ea_)); subst ec_; clear en_))
   have GB18 := Aside0.mk gb18
   have GG18 := Aside0.mk HG18
   clear gb18 gl18 HG18
   (first | simp only [add_plain] at hx413_0 | skip)
   obtain ⟨oki18, ce18, hcl18, hM18, hcc18, _, _, hH18⟩ := Kd.S_elem HO_5.out [] ((ji11) : Int) (of_decide_eq_true (by first | (with_reducible assumption) | assumption)) (by have h_ : ((ji11) : Int) < ((x5_1.length : Int) : Int) := of_decide_eq_true (by first | (with_reducible assumption) | assumption); first | exact h_ | (have e_ := (Kd.S_reads' HO_5.out).1; omega) | simpa using h_)
   obtain ⟨ve18_0, rfl, ge18_0⟩ := hM18
   have hv18 := hcc18 0 _ rfl
   have hX18 := HX413_0.out
   (try simp only [add_plain] at hX18)
   (try simp only [Nat.add_zero] at hv18)
   (try rw [show ((Kd.slice 3 (Kd.int .i64))).sz = 1 from rfl, Nat.mul_one] at hv18)
   replace hv18 := Option.some.inj (hv18.symm.trans hX18)
   subst hv18
   clear hX18 hcc18 hcl18
   have UU18 := Aside0.mk (show Kd.R (Kd.int .i64) 3 _ w.heap.size oki18 (.slice A413_0 (rd_L2 x5_1 (ji11)).length c413_0) (rd_L2 x5_1 (ji11)) from ge18_0)
   have HH18 := Aside0.mk hH18
   have HN18 := Aside0.mk (Kd.S_reads' HO_5.out).1
   clear hH18 ge18_0
   refine start_ (n := 15) (S := fun w' => w'.cell? ⟨go18, ((ji11)).toNat, none⟩ = some (.slice A413_0 (rd_L2 x5_1 (ji11)).length c413_0)) (ds := [14]) x7a0 (by kernel_rfl) rfl rfl (hx413_0) (fun hHeld => ?_); refine with_tabW spec_rsPhases.tab5 spec_rsPhases.bits5 (fun HT_ HW_ => ?_)
   generalize wr.drew = w16 at HO_5 HB GG18 HH18 HL413_0 HR413_0 HX413_0 UU18 hx413_0 hHeld ⊢
   refine pure_ (i := 0) (N := some 17) (v := ?_) (a' := ?_) x7a1 rfl rfl (any_of HT_.out (by kernel_rfl)) (fun _ _ _ h => h) (Or.inl ⟨by rfl, ?_⟩) ?_ ?_; rotate_left; (intro w'; go_simp; with_reducible rfl); rotate_left; exact xE
   refine pure_ (i := 1) (N := some 18) (v := ?_) (a' := ?_) x7a2 rfl rfl (any_of HT_.out (by kernel_rfl)) (fun _ _ _ h => h) (Or.inl ⟨by rfl, ?_⟩) ?_ ?_; rotate_left; (intro w'; go_simp; with_reducible rfl); rotate_left; exact xE
   refine pure_ (i := 2) (N := some 19) (v := ?_) (a' := ?_) x7a3 rfl rfl (any_of HT_.out (by kernel_rfl)) (fun _ _ _ h => h) (Or.inl ⟨by rfl, ?_⟩) ?_ ?_; rotate_left; (intro w'; go_simp; with_reducible rfl); rotate_left; exact xE
   refine pure_ (i := 3) (N := some 20) (v := ?_) (a' := ?_) x7a4 rfl rfl (any_of HT_.out (by kernel_rfl)) (fun _ _ _ h => h) (Or.inl ⟨by rfl, ?_⟩) ?_ ?_; rotate_left; (intro w'; go_simp; with_reducible rfl); rotate_left; exact xE
   refine pure_ (i := 4) (N := some 21) (v := ?_) (a' := ?_) x7a5 rfl rfl (any_of HT_.out (by kernel_rfl)) (fun _ _ _ h => h) (Or.inl ⟨by rfl, ?_⟩) ?_ ?_; rotate_left; (intro w'; go_simp; with_reducible rfl); rotate_left; exact xE
   refine pure_ (i := 5) (N := some 22) (v := ?_) (a' := ?_) x7a6 rfl rfl (any_of HT_.out (by kernel_rfl)) (fun _ _ _ h => h) (Or.inl ⟨by rfl, ?_⟩) ?_ ?_; rotate_left; (intro w'; go_simp; with_reducible rfl); rotate_left; exact xE
   refine pure_ (i := 6) (N := some 23) (v := ?_) (a' := ?_) x7a7 rfl rfl (any_of HT_.out (by kernel_rfl)) (fun _ _ _ h => h) (Or.inl ⟨by rfl, ?_⟩) ?_ ?_; rotate_left; (intro w'; go_simp; with_reducible rfl); rotate_left; exact xE
   refine pure_ (i := 7) (N := some 24) (v := ?_) (a' := ?_) x7a8 rfl rfl (any_of HT_.out (by kernel_rfl)) (fun _ _ _ h => h) (Or.inl ⟨by rfl, ?_⟩) ?_ ?_; rotate_left; (intro w'; go_simp; with_reducible rfl); rotate_left; exact xE
   refine pure_ (i := 8) (N := some 25) (v := ?_) (a' := ?_) x7a9 rfl rfl (any_of HT_.out (by kernel_rfl)) (fun _ _ _ h => h) (Or.inl ⟨by rfl, ?_⟩) ?_ ?_; rotate_left; (intro w'; go_simp; with_reducible rfl); rotate_left; exact xE
   refine pure_ (i := 10) (N := some 27) (v := ?_) (a' := ?_) x7a10 rfl rfl (any_of HT_.out (by kernel_rfl)) (fun _ _ _ h => h) (Or.inl ⟨by rfl, ?_⟩) ?_ ?_; rotate_left; (intro w'; go_simp; with_reducible rfl); rotate_left; exact xE
   refine take_ (i := 9) (N := some 26) (v := ?_) (a' := ?_) x7a11 rfl rfl (take_ofW HT_.out HW_.out (by kernel_rfl)) (fun _ _ _ h => h) (Or.inl ⟨by rfl, ?_⟩) hHeld ?_ ?_
   rotate_left
   ·intro w' s0
    go_simp
    with_reducible rfl
   rotate_left
   ·exact xE
   refine one_ (i := 11) (N := some 28) x7a12 rfl rfl (one_of HT_.out (by kernel_rfl)) (by decide) (fun K hK => ?_)
   refine value_ (w1 := ?_) (v := ?_) (by rfl) rfl ?_ ?_
   rotate_left 2
   ·go_simp
    constructor
    ·rfl
    ·rfl
   refine hK.out _ _ ((World.cell?_alloc_lt _ _ _ (World.block_lt_of_cell? _ _ (hHeld))).trans (hHeld)) (fun hHeld => ?_)
   clear hK K
   refine norm_ (a' := ?_) ?_ ?_
   rotate_left
   ·show Act.put _ (some 28) _ = _
    simp only [Act.put, List.setIfInBounds_toArray, List.set_cons_zero, List.set_cons_succ, i64_w, i32_w]
    rfl
   refine one_ (i := 12) (N := some 29) x7a13 rfl rfl (one_of HT_.out (by kernel_rfl)) (by decide) (fun K hK => ?_)
   refine Kd.R_append_step (Kd.int .i64) (w0 := w) w.heap.size (by rfl) (.tmp 26) (.tmp 28) 24 3 (.int .i64 0) 8 rfl Try.underlying24 info3 rfl (by decide) (by omega) (.slice A413_0 (rd_L2 x5_1 (ji11)).length c413_0) (rd_L2 x5_1 (ji11)) (rd l0 x12_1) [.int .i64 (rd l0 x12_1)] (fun k_ => oki18 k_ ∨ ((fun _ => True)) k_ ∧ w16.heap.size ≤ k_) (fun _ => False) rfl rfl ?aP (fun _ hk => hk.elim) ?aF ?aO ?aB ?aS ?aL ?_
   (case aP => exact rfl)
   (case aB => exact (xB HB.out))
   (case aF => exact (fun k_ hk => .inr ⟨trivial, hk⟩))
   (case aO => exact (by (with_reducible repeat (first | apply Kd.R_alloc | apply Kd.R_drewN | apply Kd.R_drew)); exact Kd.R_mono UU18.out (fun _ hk => .inl hk)))
   (case aS => exact (below_size (xB HB.out)))
   (case aL => have := LMc14.out; omega)
   intro v415 w19 ho hb hg hat
   (first | have HS0_ := cell_grown hg (hHeld) (by first | (rw [add_block]; exact (fun e_ => ((HL413_0.out.1 _ e_.symm).2) rfl)) | (show some (Addr.add _ _).block ≠ _; rw [add_block]; exact (fun e_ => ((HL413_0.out.1 _ e_.symm).2) rfl)) | exact (fun e_ => ((HL413_0.out.1 _ e_.symm).2) rfl)) | have HS0_ := cell_grown hg (cell_unalloc (hHeld) (by first | (rw [add_block]; exact Kd.S_lt HO_5.out _ rfl) | (show (Addr.add _ _).block < _; rw [add_block]; exact Kd.S_lt HO_5.out _ rfl) | exact Kd.S_lt HO_5.out _ rfl)) (by first | (rw [add_block]; exact (fun e_ => ((HL413_0.out.1 _ e_.symm).2) rfl)) | (show some (Addr.add _ _).block ≠ _; rw [add_block]; exact (fun e_ => ((HL413_0.out.1 _ e_.symm).2) rfl)) | exact (fun e_ => ((HL413_0.out.1 _ e_.symm).2) rfl)))
   rw [← Ny414.out] at ho
   have n0_ := Aside0.mk (hb)
   have n1_ := Aside0.mk (Kd.H_grown (Kd.H_widen (by repeat (first | exact HH18.out | refine Kd.H_alloc ?_ _ | refine Kd.H_drewN ?_ _ | refine Kd.H_drew ?_))) hg (fun k_ e_ => .inl (UU18.out.1 k_ e_)))
   have n2_ := Aside0.mk (ho)
   clear HB
   clear HH18
   clear HO_5
   clear UU18
   clear HL413_0
   have HB := n0_
   have HH18 := n1_
   have HO416 := n2_
   clear n0_ n1_ n2_
   clear ho hb hg hat
   have p15 : 0 ≤ ((ji11) : Int) := of_decide_eq_true (by first | (with_reducible assumption) | assumption | (rw [← hji11]; first | (with_reducible assumption) | assumption))
   have q15 : ((ji11) : Int) < ((x5_1.length : Int) : Int) := of_decide_eq_true (by first | (with_reducible assumption) | assumption | (rw [← hji11]; first | (with_reducible assumption) | assumption))
   replace p15 := eq_true p15
   replace q15 := eq_true q15
   obtain ⟨Ao22, co22, eo22⟩ := Kd.R_slice HO416.out
   (first | subst eo22 | (injection eo22 with f1_ f2_ f3_; have f4_ := f1_.symm; have f5_ := f3_.symm; clear f1_ f2_ f3_; subst f4_; subst f5_))
   obtain ⟨_, _, hraw20, _, _, hcc20, _⟩ := Kd.H_raw HH18.out (of_decide_eq_true (by first | (with_reducible assumption) | assumption)) (by have h_ : ((ji11) : Int) < ((x5_1.length : Int) : Int) := of_decide_eq_true (by first | (with_reducible assumption) | assumption); first | exact h_ | (have e_ := (HN18.out); omega) | simpa using h_)
   obtain ⟨_, hfr20⟩ := Kd.H_at HH18.out (of_decide_eq_true (by first | (with_reducible assumption) | assumption)) (by have h_ : ((ji11) : Int) < ((x5_1.length : Int) : Int) := of_decide_eq_true (by first | (with_reducible assumption) | assumption); first | exact h_ | (have e_ := (HN18.out); omega) | simpa using h_)
   have hx20_0 := hcc20 0 _ rfl
   have hf20_0 := hfr20 0
   (try simp only [Nat.add_zero] at hx20_0 hf20_0)
   (try rw [show ((Kd.slice 3 (Kd.int .i64))).sz = 1 from rfl, Nat.mul_one] at hx20_0)
   (try rw [show ((Kd.slice 3 (Kd.int .i64))).sz = 1 from rfl, Nat.mul_one] at hf20_0)
   have HP20 := Kd.S_seg0 HH18.out (of_decide_eq_true (by first | (with_reducible assumption) | assumption)) (by have h_ : ((ji11) : Int) < ((x5_1.length : Int) : Int) := of_decide_eq_true (by first | (with_reducible assumption) | assumption); first | exact h_ | (have e_ := (HN18.out); omega) | simpa using h_) (seg := [.slice Ao22 y414.length co22]) (j := 0) (show 1 ≤ 1 from by decide) (x' := y414) (Kd.M_row HO416.out) (fun _ hk => hk)
   (try simp only [show ((Kd.slice 3 (Kd.int .i64))).sz = 1 from rfl, Nat.mul_one, Nat.add_zero] at HP20)
   clear hcc20 hfr20
   have HS20 := HP20.1
   rw [← Ny417.out] at HS20
   have HQ20 := Aside0.mk HS20
   obtain ⟨_, hgg20⟩ := Kd.R_typed hraw20 go18 rfl
   have GG20_ := Aside0.mk hgg20
   clear HP20 HS20 hgg20
   refine hK.out _ _ (HS0_) (fun hHeld => ?_)
   clear hK K
   refine norm_ (a' := ?_) ?_ ?_
   rotate_left
   ·show Act.put _ (some 29) _ = _
    simp only [Act.put, List.setIfInBounds_toArray, List.set_cons_zero, List.set_cons_succ, i64_w, i32_w]
    rfl
   refine pure_ (i := 13) (N := some 30) (v := ?_) (a' := ?_) x7a14 rfl rfl (any_of HT_.out (by kernel_rfl)) (fun _ _ _ h => h) (Or.inl ⟨by rfl, ?_⟩) ?_ ?_; rotate_left; (intro w'; go_simp; with_reducible rfl); rotate_left; exact xE
   refine last_ (i := 14) (N := none) x7a15 rfl rfl (one_of HT_.out (by kernel_rfl)) (by decide) (fun K hK => ?_)
   refine skip_ (w1 := ?_) (by rfl) rfl ?_ ?_
   rotate_left
   ·go_simp
    rfl
   refine hK.out _ _ ?_
   clear hK K
   refine done_ (done_of HT_.out (by kernel_rfl)) ?_
   try go_wp2
   go_roundg k1
   case measure => have := HK1.out; omega
   case rel => exact ⟨(y417), (wrap64 (x12_1 + 1)), (by first | rfl | (simp; done) | (simp [*]; done)), H', ⟨by have := HK1.out; omega⟩, ⟨by (with_reducible repeat (first | apply Kd.S_alloc | apply Kd.S_drewN | apply Kd.S_drew)); exact HQ20.out⟩, ⟨by repeat (first | (with_reducible first | exact HB.out | apply below_alloc | apply pw_below_drewN | apply below_drew1 | refine below_set ?_ GB18.out) | exact HB.out)⟩⟩
end Go.Proofs.Ytjplcongellcmaa.PFnPhasesWork
