/- What each Go function that the statement FnTonesFound reaches answers, proved call by call. No condition beyond those that the theorems print. (Written by wip/tools/xprint.py of this repo, over the kit's print.) -/
import Derived.Test.YtjplcongellcmaaDoorPFnTonesFoundx0
import Derived.Test.YtjplcongellcmaaDoorPFnTonesFoundx1
import Derived.Test.YtjplcongellcmaaDoorPFnTonesFoundx2
import Derived.Test.YtjplcongellcmaaDoorPFnTonesFoundx3
import Derived.Test.YtjplcongellcmaaDoorPFnTonesFoundx4
namespace Go.Proofs.YtjplcongellcmaaDoor.PFnTonesFound
open Go.RowKit Go.Proofs.YtjplcongellcmaaDoorW.PrintWords Go.Proofs.YtjplcongellcmaaDoorW.PrintLast Go.Proofs.YtjplcongellcmaaDoorW.PrintMore
attribute [local go_sem] max2_int min2_int max_two min_two max_three min_three max_four min_four   -- for this text's walks alone
set_option linter.unusedVariables false
set_option linter.unusedSimpArgs false

/-! ### impl_ToneOfPart: function 22 -/
mutual
def impl_ToneOfPart.j0 : Nat → Int → Int → Int → Int → Bool → Option (List Int × Bool)
 | 0, _, _, _, _, _ => none
 | k + 1, x0, x1, x2, x3, x33 => if x33 = true then (some (([] : List Int), false)) else ((impl_turns.f x0).bind fun _ => (impl_ToneOfPart.l0 k x0 x1 x2 (([] : List Int)) (turnsL x0) x3 0))
def impl_ToneOfPart.l0 : Nat → Int → Int → Int → List Int → List (S66) → Int → Int → Option (List Int × Bool)
 | 0, _, _, _, _, _, _, _ => none
 | k + 1, x0, x1, x2, x10, x11, x37, x38 => if x38 < x37 then (if x0 = 0 then (none) else (if 0 ≤ (Int.tmod (wrap64 (x1 * x38)) x0) then (if (Int.tmod (wrap64 (x1 * x38)) x0) < (x11.length : Int) then (if x0 = 4 then (if x10.length < 17592186044416 then (impl_ToneOfPart.l0 k x0 x1 x2 (x10 ++ [wrap64 (x2 * ((rd_T66 x11 (Int.tmod (wrap64 (x1 * x38)) x0)).f0))]) x11 x37 (wrap64 (x38 + 1))) else (none)) else (if x10.length < 17592186044416 then (impl_ToneOfPart.l0 k x0 x1 x2 (x10 ++ [wrap64 (x2 * (wrap64 ((wrap64 (2 * ((rd_T66 x11 (Int.tmod (wrap64 (x1 * x38)) x0)).f0))) + ((rd_T66 x11 (Int.tmod (wrap64 (x1 * x38)) x0)).f1))))]) x11 x37 (wrap64 (x38 + 1))) else (none))) else (none)) else (none))) else ((impl_told.f k x10).bind fun bt317 => (some (bt317.1, bt317.2)))
end
def impl_ToneOfPart.f (k : Nat) (a0 : Int) (a1 : Int) (a2 : Int) (a3 : Int) : Option (List Int × Bool) := (impl_isParts.f a0).bind fun t302 => (if t302 = true then ((impl_in.f a1 0 (wrap64 (a0 - 1))).bind fun t303 => (if t303 = true then ((impl_in.f a2 0 1000).bind fun t304 => (if t304 = true then ((impl_in.f a3 0 64).bind fun t305 => (impl_ToneOfPart.j0 k a0 a1 a2 a3 (!t305))) else (impl_ToneOfPart.j0 k a0 a1 a2 a3 true))) else (impl_ToneOfPart.j0 k a0 a1 a2 a3 true))) else (impl_ToneOfPart.j0 k a0 a1 a2 a3 true))
theorem impl_ToneOfPart.mono_l : ∀ k, (∀ y0 y1 y2 y3 y4, LeO (impl_ToneOfPart.j0 k y0 y1 y2 y3 y4) (impl_ToneOfPart.j0 (k + 1) y0 y1 y2 y3 y4)) ∧ (∀ y0 y1 y2 y3 y4 y5 y6, LeO (impl_ToneOfPart.l0 k y0 y1 y2 y3 y4 y5 y6) (impl_ToneOfPart.l0 (k + 1) y0 y1 y2 y3 y4 y5 y6))
 | 0 => ⟨fun _ _ _ _ _ r h => by simp [impl_ToneOfPart.j0] at h, fun _ _ _ _ _ _ _ r h => by simp [impl_ToneOfPart.l0] at h⟩
 | k + 1 => by
  obtain ⟨ih0, ih1⟩ := impl_ToneOfPart.mono_l k
  have m0 := @impl_told.mono
  refine ⟨?_, ?_⟩ <;> intros
  ·unfold impl_ToneOfPart.j0; exact xM
  ·unfold impl_ToneOfPart.l0; exact xM
theorem impl_ToneOfPart.mono : ∀ a0 a1 a2 a3 k, LeO (impl_ToneOfPart.f k a0 a1 a2 a3) (impl_ToneOfPart.f (k + 1) a0 a1 a2 a3) := by
 intro a0 a1 a2 a3 k
 obtain ⟨ih0, ih1⟩ := impl_ToneOfPart.mono_l k
 have m0 := @impl_told.mono
 unfold impl_ToneOfPart.f
 exact xM
set_option maxHeartbeats 8000000 in
set_option maxRecDepth 100000 in
theorem impl_ToneOfPart.calls (k : Nat) (a0 : Int) (a1 : Int) (a2 : Int) (a3 : Int) (r1 : List Int) (r2 : Bool) (w : World) (hgl_ : GLob w) (h : impl_ToneOfPart.f k a0 a1 a2 a3 = some (r1, r2)) :
  Calls Tryd.prog 22 #[.int .i64 a0, .int .i64 a1, .int .i64 a2, .int .i64 a3] w fun e w' => ∃ v0_ : Value, e = .returned (.tuple #[v0_, .bool r2]) ∧ Kd.R (Kd.int .i64) 3 w' w.heap.size (fun _ => True) v0_ r1 ∧ Below w.heap.size w w' := by
 have HGL := Aside0.mk hgl_
 obtain ⟨Ag, hAg_⟩ : ∃ A : Option Addr, A = turnsA a0 := ⟨_, rfl⟩
 have hRg_ := hgl_ a0
 rw [← hAg_] at hRg_
 have HRg := Aside0.mk hRg_
 have HCg := Aside0.mk (Nat.le_refl (turnsL a0).length)
 have HAg := Aside0.mk hAg_
 clear hRg_ hAg_
 clear hgl_
 have hu66 := Tryd.underlying66
 have HB := Aside0.mk (Below.refl w.heap.size w)
 have H : ((impl_isParts.f a0).bind fun t302 => (if t302 = true then ((impl_in.f a1 0 (wrap64 (a0 - 1))).bind fun t303 => (if t303 = true then ((impl_in.f a2 0 1000).bind fun t304 => (if t304 = true then ((impl_in.f a3 0 64).bind fun t305 => (impl_ToneOfPart.j0 k a0 a1 a2 a3 (!t305))) else (impl_ToneOfPart.j0 k a0 a1 a2 a3 true))) else (impl_ToneOfPart.j0 k a0 a1 a2 a3 true))) else (impl_ToneOfPart.j0 k a0 a1 a2 a3 true))) = some (r1, r2) := h
 clear h
 have HC5 := Aside0.mk H
 clear H
 go_enter Tryd.func22, Tryd.ntmps22
 go_upto_region 1 with (fail)
 go_cut [33] (fun v33 wc => ∃ (kq : Nat) (x33_4 : Bool), v33 = .bool x33_4 ∧ Aside0 (impl_ToneOfPart.j0 kq a0 a1 a2 a3 x33_4 = some (r1, r2)) ∧ Aside0 (kq ≤ k) ∧ Aside0 (Below w.heap.size w wc))
 case first => as_aux_lemma =>
  have H := HC5.out
  clear HC5
  obtain ⟨t302, A6, H⟩ := xO H
  (try dsimp only at H)
  by_cases c7 : t302 = true
  rotate_left
  ·replace c7 := Bool.eq_false_iff.mpr c7
   subst c7
   rw [if_neg (show ¬ (false = true) by decide)] at H
   have H' := Aside0.mk H
   clear H
   go_wp2_with (first | (refine xG (some 15) Tryd.func42 #[.int .i64 a0] ?_; (with_reducible refine (impl_isParts.calls a0 false _ A6.out).mono ?_); rintro e w' ⟨rfl, ⟨nd, rfl⟩⟩; refine ⟨_, rfl, ?_⟩))
   go_meet
   case rel => exact ⟨_, (true), (by first | rfl | (simp; done) | (simp [*]; done)), H', ⟨by first | omega | exact Nat.le_refl _⟩, ⟨xB HB.out⟩⟩
  subst c7
  rw [if_pos rfl] at H
  obtain ⟨t303, A8, H⟩ := xO H
  (try dsimp only at H)
  by_cases c9 : t303 = true
  rotate_left
  ·replace c9 := Bool.eq_false_iff.mpr c9
   subst c9
   rw [if_neg (show ¬ (false = true) by decide)] at H
   have H' := Aside0.mk H
   clear H
   go_wp2_with (first | (refine xG (some 15) Tryd.func42 #[.int .i64 a0] ?_; (with_reducible refine (impl_isParts.calls a0 true _ A6.out).mono ?_); rintro e w' ⟨rfl, ⟨nd, rfl⟩⟩; refine ⟨_, rfl, ?_⟩) | (go_at_call 50; (with_reducible refine (impl_in.calls a1 0 (wrap64 (a0 - 1)) false _ A8.out).mono ?_); rintro e w' ⟨rfl, ⟨nd, rfl⟩⟩))
   go_meet
   case rel => exact ⟨_, (true), (by first | rfl | (simp; done) | (simp [*]; done)), H', ⟨by first | omega | exact Nat.le_refl _⟩, ⟨xB HB.out⟩⟩
  subst c9
  rw [if_pos rfl] at H
  obtain ⟨t304, A10, H⟩ := xO H
  (try dsimp only at H)
  by_cases c11 : t304 = true
  rotate_left
  ·replace c11 := Bool.eq_false_iff.mpr c11
   subst c11
   rw [if_neg (show ¬ (false = true) by decide)] at H
   have H' := Aside0.mk H
   clear H
   go_wp2_with (first | (refine xG (some 15) Tryd.func42 #[.int .i64 a0] ?_; (with_reducible refine (impl_isParts.calls a0 true _ A6.out).mono ?_); rintro e w' ⟨rfl, ⟨nd, rfl⟩⟩; refine ⟨_, rfl, ?_⟩) | (go_at_call 50; (with_reducible refine (impl_in.calls a1 0 (wrap64 (a0 - 1)) true _ A8.out).mono ?_); rintro e w' ⟨rfl, ⟨nd, rfl⟩⟩) | (go_at_call 50; (with_reducible refine (impl_in.calls a2 0 1000 false _ A10.out).mono ?_); rintro e w' ⟨rfl, ⟨nd, rfl⟩⟩))
   go_meet
   case rel => exact ⟨_, (true), (by first | rfl | (simp; done) | (simp [*]; done)), H', ⟨by first | omega | exact Nat.le_refl _⟩, ⟨xB HB.out⟩⟩
  subst c11
  rw [if_pos rfl] at H
  obtain ⟨t305, A12, H⟩ := xO H
  (try dsimp only at H)
  have H' := Aside0.mk H
  clear H
  go_wp2_with (first | (refine xG (some 15) Tryd.func42 #[.int .i64 a0] ?_; (with_reducible refine (impl_isParts.calls a0 true _ A6.out).mono ?_); rintro e w' ⟨rfl, ⟨nd, rfl⟩⟩; refine ⟨_, rfl, ?_⟩) | (go_at_call 50; (with_reducible refine (impl_in.calls a1 0 (wrap64 (a0 - 1)) true _ A8.out).mono ?_); rintro e w' ⟨rfl, ⟨nd, rfl⟩⟩) | (go_at_call 50; (with_reducible refine (impl_in.calls a2 0 1000 true _ A10.out).mono ?_); rintro e w' ⟨rfl, ⟨nd, rfl⟩⟩) | (go_at_call 50; (with_reducible refine (impl_in.calls a3 0 64 t305 _ A12.out).mono ?_); rintro e w' ⟨rfl, ⟨nd, rfl⟩⟩))
  go_meet
  case rel => exact ⟨_, (!t305), (by first | rfl | (simp; done) | (simp [*]; done)), H', ⟨by first | omega | exact Nat.le_refl _⟩, ⟨xB HB.out⟩⟩
 case rest => as_aux_lemma =>
  clear HC5
  obtain ⟨kq, x33_4, rfl, HA, HJ4, HB⟩ := hcut
  cases kq with
  | zero => exact absurd HA.out (by simp [impl_ToneOfPart.j0])
  | succ kj4 =>
   have H := HA.out
   clear HA
   simp only [impl_ToneOfPart.j0] at H
   by_cases c13 : x33_4 = true
   ·subst c13
    rw [if_pos rfl] at H
    simp only [Option.some.injEq, Prod.mk.injEq] at H
    obtain ⟨rfl, rfl⟩ := H
    go_wp2
    go_ret2
    exact ⟨_, by first | rfl | (simp [errW_none, errW_some] <;> rfl) | (simp [*, errW_none, errW_some] <;> rfl), by first | exact Kd.R_nil _ _ _ _ _ | exact Kd.N_nil _ _ _ _ _ | exact Kd.V_nil _ _ _ _ _ | exact Kd.Q_nil _ _ _ _ _ | exact Kd.S_nil _ _ _ _ _, xB HB.out⟩
   replace c13 := Bool.eq_false_iff.mpr c13
   subst c13
   rw [if_neg (show ¬ (false = true) by decide)] at H
   obtain ⟨y306, hy306⟩ : ∃ y_ : List Int, y_ = (([] : List Int)) := ⟨_, rfl⟩
   replace H : ((impl_turns.f a0).bind fun _ => (impl_ToneOfPart.l0 kj4 a0 a1 a2 y306 (turnsL a0) a3 0)) = some (r1, r2) := by first | (rw [hy306]; with_reducible exact H) | (have H2_ := (Option.bind_some _ _).symm.trans H; rw [hy306]; with_reducible exact H2_) | (have H2_ := (Option.bind_some _ _).symm.trans H; with_reducible exact H2_) | with_reducible exact H | (rw [hy306]; exact H) | exact H
   have Ny306 := Aside0.mk hy306
   clear hy306
   obtain ⟨_, A14, H⟩ := xO H
   (try dsimp only at H)
   have H' := Aside0.mk H
   clear H
   go_wp2_with (first | ((with_reducible refine gate_dst (N := 34) rfl ?_); refine Kd.R_lit (Kd.int .i64) _ 3 ?hg (N := 34) ?hd (xs := ([] : List Int)) (inner := []) (ok := fun _ => True) (okp := fun _ => True) ?hr ?hp (fun _ hk => hk) trivial (Below.refl _ _) (Nat.le_refl _) (by simp) ?_; (case hd => rfl); (case hg => rfl); (case hr => first | (go_simp; done) | (go_simp; rfl)); (case hp => exact (Reps.none _ _)); intro v307 w15 ho16 hb hg_ hnew_; clear hg_ hnew_; (first | rw [← Ny306.out] at ho16 | (simp only [Int.reduceToNat] at ho16; rw [← Ny306.out] at ho16)); have HO308 := Aside0.mk (Kd.R_lower ho16 (below_size (xB HB.out))); replace HB := Aside0.mk (below_step (xB HB.out) hb); clear hb ho16) | (refine xG (some 36) Tryd.func51 #[.int .i64 a0] ?_; (with_reducible refine (impl_turns.calls a0  _ HAg.out A14.out).mono ?_); rintro e w' ⟨rfl, ⟨nd, rfl⟩⟩; refine ⟨_, rfl, ?_⟩))
   go_loopg [10, 38] kj4 (fun kq v10 v38 w' => ∃ (x10_2 : List Int) (x38_2 : Int), v38 = .int .i64 x38_2 ∧ Aside0 (impl_ToneOfPart.l0 kq a0 a1 a2 x10_2 (turnsL a0) a3 x38_2 = some (r1, r2)) ∧ Aside0 (kq ≤ kj4) ∧ Aside0 (Kd.R (Kd.int .i64) 3 w' w.heap.size (fun _ => True) v10 x10_2) ∧ Aside0 (Below w.heap.size w w'))
   case atStart => exact ⟨(y306), (0), (by first | rfl | (simp; done) | (simp [*]; done)), H', ⟨Nat.le_refl _⟩, ⟨xR HO308.out⟩, ⟨xB HB.out⟩⟩
   case round =>
    clear H'
    try clear c13
    obtain ⟨x10_2, x38_2, rfl, HA, HK2, HO_10, HB⟩ := hrel
    cases gk with
    | zero => exact absurd HA.out (by simp [impl_ToneOfPart.l0])
    | succ k2 =>
     have H := HA.out
     clear HA
     simp only [impl_ToneOfPart.l0] at H
     by_cases c17 : x38_2 < a3
     rotate_left
     ·rw [if_neg c17] at H
      have c17b0 : decide (x38_2 < a3) = false := decide_eq_false c17
      clear c17
      replace H := Option.bind_eq_some_iff.mp H
      obtain ⟨⟨t317, t320⟩, A310, H⟩ := H
      (try dsimp only at H)
      have A31 := Aside0.mk A310
      clear A310
      simp only [Option.some.injEq, Prod.mk.injEq] at H
      obtain ⟨rfl, rfl⟩ := H
      obtain ⟨Ao32, co32, eo32⟩ := Kd.R_slice HO_10.out
      subst eo32
      go_wp2_with (first | (refine xG (some 71) Tryd.func52 #[.slice Ao32 x10_2.length co32] ?_; (with_reducible refine (impl_told.calls k2 (fun k_ => some k_ = (.slice Ao32 x10_2.length co32 : Value).ownBlock) (.slice Ao32 x10_2.length co32) x10_2 t317 t320 w _ ?side1 ?side2 A31.out).mono ?_); (case side1 => repeat (first | (with_reducible first | exact HB.out | apply below_alloc | apply pw_below_drewN | apply below_drew1) | exact HB.out)); (case side2 => exact Kd.R_tight rfl HO_10.out); rintro e w33 ⟨v318, rfl, ho0, hb, hkp⟩; refine ⟨_, rfl, ?_⟩; have HO319 := Aside0.mk (Kd.R_mono (ok' := fun k_ => True) ho0 (fun k_ hk_ => trivial)); replace HB := Aside0.mk (hb); clear HO_10; (try clear hb); (try clear hkp); (try clear ho0)))
      go_ret2
      exact ⟨_, by first | rfl | (simp [errW_none, errW_some] <;> rfl) | (simp [*, errW_none, errW_some] <;> rfl), xR HO319.out, xB HB.out⟩

     rw [if_pos c17] at H
     have c17b0 : decide (x38_2 < a3) = true := decide_eq_true c17
     clear c17
     by_cases c18 : a0 = 0
     ·rw [if_pos c18] at H
      exact absurd H (by simp)
     rw [if_neg c18] at H
     have c18b0 : (a0 == 0) = false := beq_eq_false_iff_ne.mpr c18
     have c18b1 : (a0 != 0) = true := bne_iff_ne.mpr c18
     obtain ⟨ji19, hji19⟩ : ∃ j_ : Int, (Int.tmod (wrap64 (a1 * x38_2)) a0) = j_ := ⟨_, rfl⟩
     replace H : (if 0 ≤ (ji19) then (if (ji19) < ((turnsL a0).length : Int) then (if a0 = 4 then (if x10_2.length < 17592186044416 then (impl_ToneOfPart.l0 k2 a0 a1 a2 (x10_2 ++ [wrap64 (a2 * ((rd_T66 (turnsL a0) (ji19)).f0))]) (turnsL a0) a3 (wrap64 (x38_2 + 1))) else (none)) else (if x10_2.length < 17592186044416 then (impl_ToneOfPart.l0 k2 a0 a1 a2 (x10_2 ++ [wrap64 (a2 * (wrap64 ((wrap64 (2 * ((rd_T66 (turnsL a0) (ji19)).f0))) + ((rd_T66 (turnsL a0) (ji19)).f1))))]) (turnsL a0) a3 (wrap64 (x38_2 + 1))) else (none))) else (none)) else (none)) = some (r1, r2) := by first | (rw [hji19] at H; exact H) | (simp only [hji19] at H ⊢; exact H)
     by_cases c20 : 0 ≤ (ji19)
     rotate_left
     ·rw [if_neg c20] at H
      exact absurd H (by simp)
     rw [if_pos c20] at H
     have c20b0 : decide (0 ≤ (ji19)) = true := decide_eq_true c20
     clear c20
     by_cases c21 : (ji19) < ((turnsL a0).length : Int)
     rotate_left
     ·rw [if_neg c21] at H
      exact absurd H (by simp)
     rw [if_pos c21] at H
     have c21b0 : decide ((ji19) < ((turnsL a0).length : Int)) = true := decide_eq_true c21
     clear c21
     by_cases c22 : a0 = 4
     rotate_left
     ·rw [if_neg c22] at H
      have c22b0 : (a0 == 4) = false := beq_eq_false_iff_ne.mpr c22
      have c22b1 : (a0 != 4) = true := bne_iff_ne.mpr c22
      by_cases c27 : x10_2.length < 17592186044416
      rotate_left
      ·rw [if_neg c27] at H
       exact absurd H (by simp)
      rw [if_pos c27] at H
      have LMc27 := Aside0.mk c27
      clear c27
      obtain ⟨y314, hy314⟩ : ∃ y_ : List Int, y_ = (x10_2 ++ [wrap64 (a2 * (wrap64 ((wrap64 (2 * ((rd_T66 (turnsL a0) (ji19)).f0))) + ((rd_T66 (turnsL a0) (ji19)).f1))))]) := ⟨_, rfl⟩
      replace H : (impl_ToneOfPart.l0 k2 a0 a1 a2 y314 (turnsL a0) a3 (wrap64 (x38_2 + 1))) = some (r1, r2) := by first | (rw [hy314]; with_reducible exact H) | (have H2_ := (Option.bind_some _ _).symm.trans H; rw [hy314]; with_reducible exact H2_) | (have H2_ := (Option.bind_some _ _).symm.trans H; with_reducible exact H2_) | with_reducible exact H | (rw [hy314]; exact H) | exact H
      have Ny314 := Aside0.mk hy314
      clear hy314
      have H' := Aside0.mk H
      clear H
      have p309 : 0 ≤ ((ji19) : Int) := of_decide_eq_true (by first | (with_reducible assumption) | assumption | (rw [← hji19]; first | (with_reducible assumption) | assumption))
      have q309 : (ji19) < ((turnsL a0).length : Int) := of_decide_eq_true (by first | (with_reducible assumption) | assumption | (rw [← hji19]; first | (with_reducible assumption) | assumption))
      obtain ⟨ad309, e309, hx309_0, hx309_1⟩ := at_T66 HRg.out (ji19) p309 q309
      cases e309
      replace hx309_0 := (HB.out.cell (World.block_lt_of_cell? w _ hx309_0)).trans hx309_0
      replace hx309_1 := (HB.out.cell (World.block_lt_of_cell? w _ hx309_1)).trans hx309_1
      replace p309 := eq_true p309
      replace q309 := eq_true q309
      go_wp2_with (first | (refine xV 13 #[.int .i64 0, .int .i64 0] 66 ?_; intro gb310 hg w28 hbox hb; replace HO_10 := Aside0.mk (Kd.R_below (xR HO_10.out) hb); have BK310 := Aside0.mk (hbox); have GW310 := Aside0.mk ((by rw [hg]; exact (below_size (xB HB.out)) : w.heap.size ≤ gb310)); have GE310 := Aside0.mk ((by rw [hg]; exact (below_size (xB HB.out)) : w.heap.size ≤ gb310)); replace HB := Aside0.mk (below_step (xB HB.out) hb); clear hb hbox hg; have hcz29_0 : w28.cell? ⟨gb310, 0, none⟩ = some (.int .i64 0) := (blk_cell BK310.out 0).trans rfl; have hcz29_1 : w28.cell? ⟨gb310, 1, none⟩ = some (.int .i64 0) := (blk_cell BK310.out 1).trans rfl; have hfz29_0 := blk_frozen BK310.out 0; have hfz29_1 := blk_frozen BK310.out 1) | ((with_reducible refine gate_builtin (b := .append) (xs := #[.tmp 58, .tmp 67]) rfl ?_); at_builtin; refine Kd.R_append (Kd.int .i64) (w0 := w) w.heap.size rfl (.tmp 58) (.tmp 67) 24 3 (.int .i64 0) 8 rfl Tryd.underlying24 info3 rfl (by decide) (by omega) u10 x10_2 (wrap64 (a2 * (wrap64 ((wrap64 (2 * ((rd_T66 (turnsL a0) (ji19)).f0))) + ((rd_T66 (turnsL a0) (ji19)).f1))))) [.int .i64 (wrap64 (a2 * (wrap64 ((wrap64 (2 * ((rd_T66 (turnsL a0) (ji19)).f0))) + ((rd_T66 (turnsL a0) (ji19)).f1)))))] (fun _ => True) (fun _ => False) rfl (by first | (go_simp; done) | (go_simp; rfl)) ?aP (fun _ hk => hk.elim) ?aF ?aO ?aB ?aS ?aL ?_; (case aP => exact rfl); (case aB => exact (by repeat (first | (with_reducible first | exact HB.out | apply below_alloc | apply pw_below_drewN | apply below_drew1 | refine below_set ?_ GE310.out) | exact HB.out))); (case aF => exact (fun _ _ => trivial)); (case aO => exact (by (with_reducible repeat (first | apply Kd.R_alloc | apply Kd.R_drewN | apply Kd.R_drew)); exact Kd.R_mono (Kd.R_far (p := ⟨gb310, 1, none⟩) (Kd.R_far (p := ⟨gb310, 0, none⟩) (Kd.R_types HO_10.out BK310.out (by decide)) (fun _ hk => hk.2) (.int .i64 ((rd_T66 (turnsL a0) (ji19)).f0))) (fun _ hk => hk.2) (.int .i64 ((rd_T66 (turnsL a0) (ji19)).f1))) (fun _ hk => trivial))); (case aS => exact (below_size (by repeat (first | (with_reducible first | exact HB.out | apply below_alloc | apply pw_below_drewN | apply below_drew1 | refine below_set ?_ GE310.out) | exact HB.out)))); (case aL => have := LMc27.out; omega); intro v315 w30 ho hb hg hat; rw [← Ny314.out] at ho; replace BK310 := Aside0.mk (blk_grown (g := gb310) (o := .cells #[.int .i64 ((rd_T66 (turnsL a0) (ji19)).f0), .int .i64 ((rd_T66 (turnsL a0) (ji19)).f1)] 66 (0, 0)) (by (with_reducible repeat (first | refine blk_drewN ?_ _ | refine blk_drew ?_ | refine blk_alloc ?_ _)); refine blk_put (cs := #[.int .i64 ((rd_T66 (turnsL a0) (ji19)).f0), .int .i64 0]) ?_ 1 _ rfl; (with_reducible repeat (first | refine blk_drewN ?_ _ | refine blk_drew ?_ | refine blk_alloc ?_ _)); refine blk_put (cs := #[.int .i64 0, .int .i64 0]) ?_ 0 _ rfl; (with_reducible repeat (first | refine blk_drewN ?_ _ | refine blk_drew ?_ | refine blk_alloc ?_ _)); exact BK310.out) hg (Kd.R_ne HO_10.out BK310.out (by decide))); replace HB := Aside0.mk (hb); have HO316 := Aside0.mk (ho); clear HO_10; clear ho hb hg hat))
      go_roundg k2
      case measure => have := HJ4.out; have := HK2.out; omega
      case rel => exact ⟨(y314), (wrap64 (x38_2 + 1)), (by first | rfl | (simp; done) | (simp [*]; done)), H', ⟨by have := HJ4.out; have := HK2.out; omega⟩, ⟨xR HO316.out⟩, ⟨by repeat (first | (with_reducible first | exact HB.out | apply below_alloc | apply pw_below_drewN | apply below_drew1 | refine below_set ?_ GE310.out) | exact HB.out)⟩⟩
     rw [if_pos c22] at H
     have c22b0 : (a0 == 4) = true := beq_iff_eq.mpr c22
     have c22b1 : (a0 != 4) = false := bne_eq_false_iff_eq.mpr c22
     clear c22
     by_cases c23 : x10_2.length < 17592186044416
     rotate_left
     ·rw [if_neg c23] at H
      exact absurd H (by simp)
     rw [if_pos c23] at H
     have LMc23 := Aside0.mk c23
     clear c23
     obtain ⟨y311, hy311⟩ : ∃ y_ : List Int, y_ = (x10_2 ++ [wrap64 (a2 * ((rd_T66 (turnsL a0) (ji19)).f0))]) := ⟨_, rfl⟩
     replace H : (impl_ToneOfPart.l0 k2 a0 a1 a2 y311 (turnsL a0) a3 (wrap64 (x38_2 + 1))) = some (r1, r2) := by first | (rw [hy311]; with_reducible exact H) | (have H2_ := (Option.bind_some _ _).symm.trans H; rw [hy311]; with_reducible exact H2_) | (have H2_ := (Option.bind_some _ _).symm.trans H; with_reducible exact H2_) | with_reducible exact H | (rw [hy311]; exact H) | exact H
     have Ny311 := Aside0.mk hy311
     clear hy311
     have H' := Aside0.mk H
     clear H
     have p309 : 0 ≤ ((ji19) : Int) := of_decide_eq_true (by first | (with_reducible assumption) | assumption | (rw [← hji19]; first | (with_reducible assumption) | assumption))
     have q309 : (ji19) < ((turnsL a0).length : Int) := of_decide_eq_true (by first | (with_reducible assumption) | assumption | (rw [← hji19]; first | (with_reducible assumption) | assumption))
     obtain ⟨ad309, e309, hx309_0, hx309_1⟩ := at_T66 HRg.out (ji19) p309 q309
     cases e309
     replace hx309_0 := (HB.out.cell (World.block_lt_of_cell? w _ hx309_0)).trans hx309_0
     replace hx309_1 := (HB.out.cell (World.block_lt_of_cell? w _ hx309_1)).trans hx309_1
     replace p309 := eq_true p309
     replace q309 := eq_true q309
     go_wp2_with (first | (refine xV 13 #[.int .i64 0, .int .i64 0] 66 ?_; intro gb310 hg w24 hbox hb; replace HO_10 := Aside0.mk (Kd.R_below (xR HO_10.out) hb); have BK310 := Aside0.mk (hbox); have GW310 := Aside0.mk ((by rw [hg]; exact (below_size (xB HB.out)) : w.heap.size ≤ gb310)); have GE310 := Aside0.mk ((by rw [hg]; exact (below_size (xB HB.out)) : w.heap.size ≤ gb310)); replace HB := Aside0.mk (below_step (xB HB.out) hb); clear hb hbox hg; have hcz25_0 : w24.cell? ⟨gb310, 0, none⟩ = some (.int .i64 0) := (blk_cell BK310.out 0).trans rfl; have hcz25_1 : w24.cell? ⟨gb310, 1, none⟩ = some (.int .i64 0) := (blk_cell BK310.out 1).trans rfl; have hfz25_0 := blk_frozen BK310.out 0; have hfz25_1 := blk_frozen BK310.out 1) | ((with_reducible refine gate_builtin (b := .append) (xs := #[.tmp 51, .tmp 56]) rfl ?_); at_builtin; refine Kd.R_append (Kd.int .i64) (w0 := w) w.heap.size rfl (.tmp 51) (.tmp 56) 24 3 (.int .i64 0) 8 rfl Tryd.underlying24 info3 rfl (by decide) (by omega) u10 x10_2 (wrap64 (a2 * ((rd_T66 (turnsL a0) (ji19)).f0))) [.int .i64 (wrap64 (a2 * ((rd_T66 (turnsL a0) (ji19)).f0)))] (fun _ => True) (fun _ => False) rfl (by first | (go_simp; done) | (go_simp; rfl)) ?aP (fun _ hk => hk.elim) ?aF ?aO ?aB ?aS ?aL ?_; (case aP => exact rfl); (case aB => exact (by repeat (first | (with_reducible first | exact HB.out | apply below_alloc | apply pw_below_drewN | apply below_drew1 | refine below_set ?_ GE310.out) | exact HB.out))); (case aF => exact (fun _ _ => trivial)); (case aO => exact (by (with_reducible repeat (first | apply Kd.R_alloc | apply Kd.R_drewN | apply Kd.R_drew)); exact Kd.R_mono (Kd.R_far (p := ⟨gb310, 1, none⟩) (Kd.R_far (p := ⟨gb310, 0, none⟩) (Kd.R_types HO_10.out BK310.out (by decide)) (fun _ hk => hk.2) (.int .i64 ((rd_T66 (turnsL a0) (ji19)).f0))) (fun _ hk => hk.2) (.int .i64 ((rd_T66 (turnsL a0) (ji19)).f1))) (fun _ hk => trivial))); (case aS => exact (below_size (by repeat (first | (with_reducible first | exact HB.out | apply below_alloc | apply pw_below_drewN | apply below_drew1 | refine below_set ?_ GE310.out) | exact HB.out)))); (case aL => have := LMc23.out; omega); intro v312 w26 ho hb hg hat; rw [← Ny311.out] at ho; replace BK310 := Aside0.mk (blk_grown (g := gb310) (o := .cells #[.int .i64 ((rd_T66 (turnsL a0) (ji19)).f0), .int .i64 ((rd_T66 (turnsL a0) (ji19)).f1)] 66 (0, 0)) (by (with_reducible repeat (first | refine blk_drewN ?_ _ | refine blk_drew ?_ | refine blk_alloc ?_ _)); refine blk_put (cs := #[.int .i64 ((rd_T66 (turnsL a0) (ji19)).f0), .int .i64 0]) ?_ 1 _ rfl; (with_reducible repeat (first | refine blk_drewN ?_ _ | refine blk_drew ?_ | refine blk_alloc ?_ _)); refine blk_put (cs := #[.int .i64 0, .int .i64 0]) ?_ 0 _ rfl; (with_reducible repeat (first | refine blk_drewN ?_ _ | refine blk_drew ?_ | refine blk_alloc ?_ _)); exact BK310.out) hg (Kd.R_ne HO_10.out BK310.out (by decide))); replace HB := Aside0.mk (hb); have HO313 := Aside0.mk (ho); clear HO_10; clear ho hb hg hat))
     go_roundg k2
     case measure => have := HJ4.out; have := HK2.out; omega
     case rel => exact ⟨(y311), (wrap64 (x38_2 + 1)), (by first | rfl | (simp; done) | (simp [*]; done)), H', ⟨by have := HJ4.out; have := HK2.out; omega⟩, ⟨xR HO313.out⟩, ⟨by repeat (first | (with_reducible first | exact HB.out | apply below_alloc | apply pw_below_drewN | apply below_drew1 | refine below_set ?_ GE310.out) | exact HB.out)⟩⟩
/-! ### spec_tnParts: function 53 -/
def spec_tnParts.f (a0 : Int) : Option (Bool) := if a0 = 4 then (some true) else (some (a0 == 6))
set_option maxHeartbeats 8000000 in
set_option maxRecDepth 100000 in
theorem spec_tnParts.calls (a0 : Int) (r : Bool) (w : World) (h : spec_tnParts.f a0 = some r) :
  Calls Tryd.prog 53 #[.int .i64 a0] w fun e w' => e = .returned (.bool r) ∧ Drawn0 w w' := by
 have H : (if a0 = 4 then (some true) else (some (a0 == 6))) = some r := h
 clear h
 by_cases c2 : a0 = 4
 rotate_left
 ·rw [if_neg c2] at H
  have c2b0 : (a0 == 4) = false := beq_eq_false_iff_ne.mpr c2
  have c2b1 : (a0 != 4) = true := bne_iff_ne.mpr c2
  obtain rfl := Option.some.inj H
  go_enter Tryd.func53, Tryd.ntmps53
  go_wp2
  go_ret
  exact ⟨by first | rfl | (simp; done) | (simp [*]; done), by repeat (first | exact Drawn0.refl _ | apply Drawn0.step)⟩

 rw [if_pos c2] at H
 have c2b0 : (a0 == 4) = true := beq_iff_eq.mpr c2
 have c2b1 : (a0 != 4) = false := bne_eq_false_iff_eq.mpr c2
 clear c2
 obtain rfl := Option.some.inj H
 go_enter Tryd.func53, Tryd.ntmps53
 go_wp2
 go_ret
 exact ⟨by first | rfl | (simp; done) | (simp [*]; done), by repeat (first | exact Drawn0.refl _ | apply Drawn0.step)⟩
/-! ### spec_ToneOfPart: function 23 -/
mutual
def spec_ToneOfPart.j0 : Nat → Int → Int → Int → Int → Bool → Option (List Int × Bool)
 | 0, _, _, _, _, _ => none
 | k + 1, x0, x1, x2, x3, x32 => if x32 = true then (some (([] : List Int), false)) else (spec_ToneOfPart.l0 k x0 x1 x2 x3 ([] : List Int) 0)
def spec_ToneOfPart.l0 : Nat → Int → Int → Int → Int → List Int → Int → Option (List Int × Bool)
 | 0, _, _, _, _, _, _ => none
 | k + 1, x0, x1, x2, x3, x10, x11 => if x11 < x3 then ((spec_tnTurn.f x0 (wrap64 (x1 * x11))).bind fun bt325 => (if x0 = 4 then (if x10.length < 17592186044416 then (spec_ToneOfPart.l0 k x0 x1 x2 x3 (x10 ++ [wrap64 (x2 * bt325.1)]) (wrap64 (x11 + 1))) else (none)) else (if x10.length < 17592186044416 then (spec_ToneOfPart.l0 k x0 x1 x2 x3 (x10 ++ [wrap64 (x2 * (wrap64 ((wrap64 (2 * bt325.1)) + bt325.2)))]) (wrap64 (x11 + 1))) else (none)))) else (some (x10, true))
end
def spec_ToneOfPart.f (k : Nat) (a0 : Int) (a1 : Int) (a2 : Int) (a3 : Int) : Option (List Int × Bool) := (spec_tnParts.f a0).bind fun t321 => (if t321 = true then ((spec_l1In.f a1 0 (wrap64 (a0 - 1))).bind fun t322 => (if t322 = true then ((spec_l1In.f a2 0 1000).bind fun t323 => (if t323 = true then ((spec_l1In.f a3 0 64).bind fun t324 => (spec_ToneOfPart.j0 k a0 a1 a2 a3 (!t324))) else (spec_ToneOfPart.j0 k a0 a1 a2 a3 true))) else (spec_ToneOfPart.j0 k a0 a1 a2 a3 true))) else (spec_ToneOfPart.j0 k a0 a1 a2 a3 true))
theorem spec_ToneOfPart.mono_l : ∀ k, (∀ y0 y1 y2 y3 y4, LeO (spec_ToneOfPart.j0 k y0 y1 y2 y3 y4) (spec_ToneOfPart.j0 (k + 1) y0 y1 y2 y3 y4)) ∧ (∀ y0 y1 y2 y3 y4 y5, LeO (spec_ToneOfPart.l0 k y0 y1 y2 y3 y4 y5) (spec_ToneOfPart.l0 (k + 1) y0 y1 y2 y3 y4 y5))
 | 0 => ⟨fun _ _ _ _ _ r h => by simp [spec_ToneOfPart.j0] at h, fun _ _ _ _ _ _ r h => by simp [spec_ToneOfPart.l0] at h⟩
 | k + 1 => by
  obtain ⟨ih0, ih1⟩ := spec_ToneOfPart.mono_l k
  refine ⟨?_, ?_⟩ <;> intros
  ·unfold spec_ToneOfPart.j0; exact xM
  ·unfold spec_ToneOfPart.l0; exact xM
theorem spec_ToneOfPart.mono : ∀ a0 a1 a2 a3 k, LeO (spec_ToneOfPart.f k a0 a1 a2 a3) (spec_ToneOfPart.f (k + 1) a0 a1 a2 a3) := by
 intro a0 a1 a2 a3 k
 obtain ⟨ih0, ih1⟩ := spec_ToneOfPart.mono_l k
 unfold spec_ToneOfPart.f
 exact xM
set_option maxHeartbeats 8000000 in
set_option maxRecDepth 100000 in
theorem spec_ToneOfPart.calls (k : Nat) (a0 : Int) (a1 : Int) (a2 : Int) (a3 : Int) (r1 : List Int) (r2 : Bool) (w : World) (h : spec_ToneOfPart.f k a0 a1 a2 a3 = some (r1, r2)) :
  Calls Tryd.prog 23 #[.int .i64 a0, .int .i64 a1, .int .i64 a2, .int .i64 a3] w fun e w' => ∃ v0_ : Value, e = .returned (.tuple #[v0_, .bool r2]) ∧ Kd.R (Kd.int .i64) 3 w' w.heap.size (fun _ => True) v0_ r1 ∧ Below w.heap.size w w' := by
 have hu61 := Tryd.underlying61
 have HB := Aside0.mk (Below.refl w.heap.size w)
 have H : ((spec_tnParts.f a0).bind fun t321 => (if t321 = true then ((spec_l1In.f a1 0 (wrap64 (a0 - 1))).bind fun t322 => (if t322 = true then ((spec_l1In.f a2 0 1000).bind fun t323 => (if t323 = true then ((spec_l1In.f a3 0 64).bind fun t324 => (spec_ToneOfPart.j0 k a0 a1 a2 a3 (!t324))) else (spec_ToneOfPart.j0 k a0 a1 a2 a3 true))) else (spec_ToneOfPart.j0 k a0 a1 a2 a3 true))) else (spec_ToneOfPart.j0 k a0 a1 a2 a3 true))) = some (r1, r2) := h
 clear h
 have HC5 := Aside0.mk H
 clear H
 go_enter Tryd.func23, Tryd.ntmps23
 go_upto_region 1 with (fail)
 go_cut [32] (fun v32 wc => ∃ (kq : Nat) (x32_4 : Bool), v32 = .bool x32_4 ∧ Aside0 (spec_ToneOfPart.j0 kq a0 a1 a2 a3 x32_4 = some (r1, r2)) ∧ Aside0 (kq ≤ k) ∧ Aside0 (Below w.heap.size w wc))
 case first => as_aux_lemma =>
  have H := HC5.out
  clear HC5
  obtain ⟨t321, A6, H⟩ := xO H
  (try dsimp only at H)
  by_cases c7 : t321 = true
  rotate_left
  ·replace c7 := Bool.eq_false_iff.mpr c7
   subst c7
   rw [if_neg (show ¬ (false = true) by decide)] at H
   have H' := Aside0.mk H
   clear H
   go_wp2_with (first | (refine xG (some 14) Tryd.func53 #[.int .i64 a0] ?_; (with_reducible refine (spec_tnParts.calls a0 false _ A6.out).mono ?_); rintro e w' ⟨rfl, ⟨nd, rfl⟩⟩; refine ⟨_, rfl, ?_⟩))
   go_meet
   case rel => exact ⟨_, (true), (by first | rfl | (simp; done) | (simp [*]; done)), H', ⟨by first | omega | exact Nat.le_refl _⟩, ⟨xB HB.out⟩⟩
  subst c7
  rw [if_pos rfl] at H
  obtain ⟨t322, A8, H⟩ := xO H
  (try dsimp only at H)
  by_cases c9 : t322 = true
  rotate_left
  ·replace c9 := Bool.eq_false_iff.mpr c9
   subst c9
   rw [if_neg (show ¬ (false = true) by decide)] at H
   have H' := Aside0.mk H
   clear H
   go_wp2_with (first | (refine xG (some 14) Tryd.func53 #[.int .i64 a0] ?_; (with_reducible refine (spec_tnParts.calls a0 true _ A6.out).mono ?_); rintro e w' ⟨rfl, ⟨nd, rfl⟩⟩; refine ⟨_, rfl, ?_⟩) | (go_at_call 48; (with_reducible refine (spec_l1In.calls a1 0 (wrap64 (a0 - 1)) false _ A8.out).mono ?_); rintro e w' ⟨rfl, ⟨nd, rfl⟩⟩))
   go_meet
   case rel => exact ⟨_, (true), (by first | rfl | (simp; done) | (simp [*]; done)), H', ⟨by first | omega | exact Nat.le_refl _⟩, ⟨xB HB.out⟩⟩
  subst c9
  rw [if_pos rfl] at H
  obtain ⟨t323, A10, H⟩ := xO H
  (try dsimp only at H)
  by_cases c11 : t323 = true
  rotate_left
  ·replace c11 := Bool.eq_false_iff.mpr c11
   subst c11
   rw [if_neg (show ¬ (false = true) by decide)] at H
   have H' := Aside0.mk H
   clear H
   go_wp2_with (first | (refine xG (some 14) Tryd.func53 #[.int .i64 a0] ?_; (with_reducible refine (spec_tnParts.calls a0 true _ A6.out).mono ?_); rintro e w' ⟨rfl, ⟨nd, rfl⟩⟩; refine ⟨_, rfl, ?_⟩) | (go_at_call 48; (with_reducible refine (spec_l1In.calls a1 0 (wrap64 (a0 - 1)) true _ A8.out).mono ?_); rintro e w' ⟨rfl, ⟨nd, rfl⟩⟩) | (go_at_call 48; (with_reducible refine (spec_l1In.calls a2 0 1000 false _ A10.out).mono ?_); rintro e w' ⟨rfl, ⟨nd, rfl⟩⟩))
   go_meet
   case rel => exact ⟨_, (true), (by first | rfl | (simp; done) | (simp [*]; done)), H', ⟨by first | omega | exact Nat.le_refl _⟩, ⟨xB HB.out⟩⟩
  subst c11
  rw [if_pos rfl] at H
  obtain ⟨t324, A12, H⟩ := xO H
  (try dsimp only at H)
  have H' := Aside0.mk H
  clear H
  go_wp2_with (first | (refine xG (some 14) Tryd.func53 #[.int .i64 a0] ?_; (with_reducible refine (spec_tnParts.calls a0 true _ A6.out).mono ?_); rintro e w' ⟨rfl, ⟨nd, rfl⟩⟩; refine ⟨_, rfl, ?_⟩) | (go_at_call 48; (with_reducible refine (spec_l1In.calls a1 0 (wrap64 (a0 - 1)) true _ A8.out).mono ?_); rintro e w' ⟨rfl, ⟨nd, rfl⟩⟩) | (go_at_call 48; (with_reducible refine (spec_l1In.calls a2 0 1000 true _ A10.out).mono ?_); rintro e w' ⟨rfl, ⟨nd, rfl⟩⟩) | (go_at_call 48; (with_reducible refine (spec_l1In.calls a3 0 64 t324 _ A12.out).mono ?_); rintro e w' ⟨rfl, ⟨nd, rfl⟩⟩))
  go_meet
  case rel => exact ⟨_, (!t324), (by first | rfl | (simp; done) | (simp [*]; done)), H', ⟨by first | omega | exact Nat.le_refl _⟩, ⟨xB HB.out⟩⟩
 case rest => as_aux_lemma =>
  clear HC5
  obtain ⟨kq, x32_4, rfl, HA, HJ4, HB⟩ := hcut
  cases kq with
  | zero => exact absurd HA.out (by simp [spec_ToneOfPart.j0])
  | succ kj4 =>
   have H := HA.out
   clear HA
   simp only [spec_ToneOfPart.j0] at H
   by_cases c13 : x32_4 = true
   ·subst c13
    rw [if_pos rfl] at H
    simp only [Option.some.injEq, Prod.mk.injEq] at H
    obtain ⟨rfl, rfl⟩ := H
    go_wp2
    go_ret2
    exact ⟨_, by first | rfl | (simp [errW_none, errW_some] <;> rfl) | (simp [*, errW_none, errW_some] <;> rfl), by first | exact Kd.R_nil _ _ _ _ _ | exact Kd.N_nil _ _ _ _ _ | exact Kd.V_nil _ _ _ _ _ | exact Kd.Q_nil _ _ _ _ _ | exact Kd.S_nil _ _ _ _ _, xB HB.out⟩
   replace c13 := Bool.eq_false_iff.mpr c13
   subst c13
   rw [if_neg (show ¬ (false = true) by decide)] at H
   have H' := Aside0.mk H
   clear H
   go_wp2
   go_loopg [10, 11] kj4 (fun kq v10 v11 w' => ∃ (x10_2 : List Int) (x11_2 : Int), v11 = .int .i64 x11_2 ∧ Aside0 (spec_ToneOfPart.l0 kq a0 a1 a2 a3 x10_2 x11_2 = some (r1, r2)) ∧ Aside0 (kq ≤ kj4) ∧ Aside0 (Kd.R (Kd.int .i64) 3 w' w.heap.size (fun _ => True) v10 x10_2) ∧ Aside0 (Below w.heap.size w w'))
   case atStart => exact ⟨(([] : List Int)), (0), (by first | rfl | (simp; done) | (simp [*]; done)), H', ⟨Nat.le_refl _⟩, ⟨by first | exact Kd.R_nil _ _ _ _ _ | exact Kd.N_nil _ _ _ _ _ | exact Kd.V_nil _ _ _ _ _ | exact Kd.Q_nil _ _ _ _ _ | exact Kd.S_nil _ _ _ _ _⟩, ⟨xB HB.out⟩⟩
   case round =>
    clear H'
    try clear c13
    obtain ⟨x10_2, x11_2, rfl, HA, HK2, HO_10, HB⟩ := hrel
    cases gk with
    | zero => exact absurd HA.out (by simp [spec_ToneOfPart.l0])
    | succ k2 =>
     have H := HA.out
     clear HA
     simp only [spec_ToneOfPart.l0] at H
     by_cases c14 : x11_2 < a3
     rotate_left
     ·rw [if_neg c14] at H
      have c14b0 : decide (x11_2 < a3) = false := decide_eq_false c14
      clear c14
      simp only [Option.some.injEq, Prod.mk.injEq] at H
      obtain ⟨rfl, rfl⟩ := H
      go_wp2
      go_ret2
      exact ⟨_, by first | rfl | (simp [errW_none, errW_some] <;> rfl) | (simp [*, errW_none, errW_some] <;> rfl), xR HO_10.out, xB HB.out⟩

     rw [if_pos c14] at H
     have c14b0 : decide (x11_2 < a3) = true := decide_eq_true c14
     clear c14
     replace H := Option.bind_eq_some_iff.mp H
     obtain ⟨⟨t325, t326⟩, A150, H⟩ := H
     (try dsimp only at H)
     have A15 := Aside0.mk A150
     clear A150
     by_cases c16 : a0 = 4
     rotate_left
     ·rw [if_neg c16] at H
      have c16b0 : (a0 == 4) = false := beq_eq_false_iff_ne.mpr c16
      have c16b1 : (a0 != 4) = true := bne_iff_ne.mpr c16
      by_cases c22 : x10_2.length < 17592186044416
      rotate_left
      ·rw [if_neg c22] at H
       exact absurd H (by simp)
      rw [if_pos c22] at H
      have LMc22 := Aside0.mk c22
      clear c22
      obtain ⟨y331, hy331⟩ : ∃ y_ : List Int, y_ = (x10_2 ++ [wrap64 (a2 * (wrap64 ((wrap64 (2 * t325)) + t326)))]) := ⟨_, rfl⟩
      replace H : (spec_ToneOfPart.l0 k2 a0 a1 a2 a3 y331 (wrap64 (x11_2 + 1))) = some (r1, r2) := by first | (rw [hy331]; with_reducible exact H) | (have H2_ := (Option.bind_some _ _).symm.trans H; rw [hy331]; with_reducible exact H2_) | (have H2_ := (Option.bind_some _ _).symm.trans H; with_reducible exact H2_) | with_reducible exact H | (rw [hy331]; exact H) | exact H
      have Ny331 := Aside0.mk hy331
      clear hy331
      have H' := Aside0.mk H
      clear H
      go_wp2_with (first | (refine xG (some 42) Tryd.func54 #[.int .i64 a0, .int .i64 (wrap64 (a1 * x11_2))] ?_; (with_reducible refine (spec_tnTurn.calls a0 (wrap64 (a1 * x11_2)) t325 t326 _ A15.out).mono ?_); rintro e w23 ⟨rfl, hb⟩; refine ⟨_, rfl, ?_⟩; replace HO_10 := Aside0.mk (Kd.R_below (xR HO_10.out) hb); replace HB := Aside0.mk (below_step (xB HB.out) hb); (try clear hb); (try clear hb2); (try clear hk); (try clear hi)) | (refine xV 12 #[.int .i64 0, .int .i64 0] 61 ?_; intro gb327 hg w24 hbox hb; replace HO_10 := Aside0.mk (Kd.R_below (xR HO_10.out) hb); have BK327 := Aside0.mk (hbox); have GW327 := Aside0.mk ((by rw [hg]; exact (below_size (xB HB.out)) : w.heap.size ≤ gb327)); have GE327 := Aside0.mk ((by rw [hg]; exact (below_size (xB HB.out)) : w.heap.size ≤ gb327)); replace HB := Aside0.mk (below_step (xB HB.out) hb); clear hb hbox hg; have hcz25_0 : w24.cell? ⟨gb327, 0, none⟩ = some (.int .i64 0) := (blk_cell BK327.out 0).trans rfl; have hcz25_1 : w24.cell? ⟨gb327, 1, none⟩ = some (.int .i64 0) := (blk_cell BK327.out 1).trans rfl; have hfz25_0 := blk_frozen BK327.out 0; have hfz25_1 := blk_frozen BK327.out 1) | ((with_reducible refine gate_builtin (b := .append) (xs := #[.tmp 52, .tmp 61]) rfl ?_); at_builtin; refine Kd.R_append (Kd.int .i64) (w0 := w) w.heap.size rfl (.tmp 52) (.tmp 61) 24 3 (.int .i64 0) 8 rfl Tryd.underlying24 info3 rfl (by decide) (by omega) u10 x10_2 (wrap64 (a2 * (wrap64 ((wrap64 (2 * t325)) + t326)))) [.int .i64 (wrap64 (a2 * (wrap64 ((wrap64 (2 * t325)) + t326))))] (fun _ => True) (fun _ => False) rfl (by first | (go_simp; done) | (go_simp; rfl)) ?aP (fun _ hk => hk.elim) ?aF ?aO ?aB ?aS ?aL ?_; (case aP => exact rfl); (case aB => exact (by repeat (first | (with_reducible first | exact HB.out | apply below_alloc | apply pw_below_drewN | apply below_drew1 | refine below_set ?_ GE327.out) | exact HB.out))); (case aF => exact (fun _ _ => trivial)); (case aO => exact (by (with_reducible repeat (first | apply Kd.R_alloc | apply Kd.R_drewN | apply Kd.R_drew)); exact Kd.R_mono (Kd.R_far (p := ⟨gb327, 1, none⟩) (Kd.R_far (p := ⟨gb327, 0, none⟩) (Kd.R_types HO_10.out BK327.out (by decide)) (fun _ hk => hk.2) (.int .i64 t325)) (fun _ hk => hk.2) (.int .i64 t326)) (fun _ hk => trivial))); (case aS => exact (below_size (by repeat (first | (with_reducible first | exact HB.out | apply below_alloc | apply pw_below_drewN | apply below_drew1 | refine below_set ?_ GE327.out) | exact HB.out)))); (case aL => have := LMc22.out; omega); intro v332 w26 ho hb hg hat; rw [← Ny331.out] at ho; replace BK327 := Aside0.mk (blk_grown (g := gb327) (o := .cells #[.int .i64 t325, .int .i64 t326] 61 (0, 0)) (by (with_reducible repeat (first | refine blk_drewN ?_ _ | refine blk_drew ?_ | refine blk_alloc ?_ _)); refine blk_put (cs := #[.int .i64 t325, .int .i64 0]) ?_ 1 _ rfl; (with_reducible repeat (first | refine blk_drewN ?_ _ | refine blk_drew ?_ | refine blk_alloc ?_ _)); refine blk_put (cs := #[.int .i64 0, .int .i64 0]) ?_ 0 _ rfl; (with_reducible repeat (first | refine blk_drewN ?_ _ | refine blk_drew ?_ | refine blk_alloc ?_ _)); exact BK327.out) hg (Kd.R_ne HO_10.out BK327.out (by decide))); replace HB := Aside0.mk (hb); have HO333 := Aside0.mk (ho); clear HO_10; clear ho hb hg hat))
      go_roundg k2
      case measure => have := HJ4.out; have := HK2.out; omega
      case rel => exact ⟨(y331), (wrap64 (x11_2 + 1)), (by first | rfl | (simp; done) | (simp [*]; done)), H', ⟨by have := HJ4.out; have := HK2.out; omega⟩, ⟨xR HO333.out⟩, ⟨by repeat (first | (with_reducible first | exact HB.out | apply below_alloc | apply pw_below_drewN | apply below_drew1 | refine below_set ?_ GE327.out) | exact HB.out)⟩⟩
     rw [if_pos c16] at H
     have c16b0 : (a0 == 4) = true := beq_iff_eq.mpr c16
     have c16b1 : (a0 != 4) = false := bne_eq_false_iff_eq.mpr c16
     clear c16
     by_cases c17 : x10_2.length < 17592186044416
     rotate_left
     ·rw [if_neg c17] at H
      exact absurd H (by simp)
     rw [if_pos c17] at H
     have LMc17 := Aside0.mk c17
     clear c17
     obtain ⟨y328, hy328⟩ : ∃ y_ : List Int, y_ = (x10_2 ++ [wrap64 (a2 * t325)]) := ⟨_, rfl⟩
     replace H : (spec_ToneOfPart.l0 k2 a0 a1 a2 a3 y328 (wrap64 (x11_2 + 1))) = some (r1, r2) := by first | (rw [hy328]; with_reducible exact H) | (have H2_ := (Option.bind_some _ _).symm.trans H; rw [hy328]; with_reducible exact H2_) | (have H2_ := (Option.bind_some _ _).symm.trans H; with_reducible exact H2_) | with_reducible exact H | (rw [hy328]; exact H) | exact H
     have Ny328 := Aside0.mk hy328
     clear hy328
     have H' := Aside0.mk H
     clear H
     go_wp2_with (first | (refine xG (some 42) Tryd.func54 #[.int .i64 a0, .int .i64 (wrap64 (a1 * x11_2))] ?_; (with_reducible refine (spec_tnTurn.calls a0 (wrap64 (a1 * x11_2)) t325 t326 _ A15.out).mono ?_); rintro e w18 ⟨rfl, hb⟩; refine ⟨_, rfl, ?_⟩; replace HO_10 := Aside0.mk (Kd.R_below (xR HO_10.out) hb); replace HB := Aside0.mk (below_step (xB HB.out) hb); (try clear hb); (try clear hb2); (try clear hk); (try clear hi)) | (refine xV 12 #[.int .i64 0, .int .i64 0] 61 ?_; intro gb327 hg w19 hbox hb; replace HO_10 := Aside0.mk (Kd.R_below (xR HO_10.out) hb); have BK327 := Aside0.mk (hbox); have GW327 := Aside0.mk ((by rw [hg]; exact (below_size (xB HB.out)) : w.heap.size ≤ gb327)); have GE327 := Aside0.mk ((by rw [hg]; exact (below_size (xB HB.out)) : w.heap.size ≤ gb327)); replace HB := Aside0.mk (below_step (xB HB.out) hb); clear hb hbox hg; have hcz20_0 : w19.cell? ⟨gb327, 0, none⟩ = some (.int .i64 0) := (blk_cell BK327.out 0).trans rfl; have hcz20_1 : w19.cell? ⟨gb327, 1, none⟩ = some (.int .i64 0) := (blk_cell BK327.out 1).trans rfl; have hfz20_0 := blk_frozen BK327.out 0; have hfz20_1 := blk_frozen BK327.out 1) | ((with_reducible refine gate_builtin (b := .append) (xs := #[.tmp 45, .tmp 50]) rfl ?_); at_builtin; refine Kd.R_append (Kd.int .i64) (w0 := w) w.heap.size rfl (.tmp 45) (.tmp 50) 24 3 (.int .i64 0) 8 rfl Tryd.underlying24 info3 rfl (by decide) (by omega) u10 x10_2 (wrap64 (a2 * t325)) [.int .i64 (wrap64 (a2 * t325))] (fun _ => True) (fun _ => False) rfl (by first | (go_simp; done) | (go_simp; rfl)) ?aP (fun _ hk => hk.elim) ?aF ?aO ?aB ?aS ?aL ?_; (case aP => exact rfl); (case aB => exact (by repeat (first | (with_reducible first | exact HB.out | apply below_alloc | apply pw_below_drewN | apply below_drew1 | refine below_set ?_ GE327.out) | exact HB.out))); (case aF => exact (fun _ _ => trivial)); (case aO => exact (by (with_reducible repeat (first | apply Kd.R_alloc | apply Kd.R_drewN | apply Kd.R_drew)); exact Kd.R_mono (Kd.R_far (p := ⟨gb327, 1, none⟩) (Kd.R_far (p := ⟨gb327, 0, none⟩) (Kd.R_types HO_10.out BK327.out (by decide)) (fun _ hk => hk.2) (.int .i64 t325)) (fun _ hk => hk.2) (.int .i64 t326)) (fun _ hk => trivial))); (case aS => exact (below_size (by repeat (first | (with_reducible first | exact HB.out | apply below_alloc | apply pw_below_drewN | apply below_drew1 | refine below_set ?_ GE327.out) | exact HB.out)))); (case aL => have := LMc17.out; omega); intro v329 w21 ho hb hg hat; rw [← Ny328.out] at ho; replace BK327 := Aside0.mk (blk_grown (g := gb327) (o := .cells #[.int .i64 t325, .int .i64 t326] 61 (0, 0)) (by (with_reducible repeat (first | refine blk_drewN ?_ _ | refine blk_drew ?_ | refine blk_alloc ?_ _)); refine blk_put (cs := #[.int .i64 t325, .int .i64 0]) ?_ 1 _ rfl; (with_reducible repeat (first | refine blk_drewN ?_ _ | refine blk_drew ?_ | refine blk_alloc ?_ _)); refine blk_put (cs := #[.int .i64 0, .int .i64 0]) ?_ 0 _ rfl; (with_reducible repeat (first | refine blk_drewN ?_ _ | refine blk_drew ?_ | refine blk_alloc ?_ _)); exact BK327.out) hg (Kd.R_ne HO_10.out BK327.out (by decide))); replace HB := Aside0.mk (hb); have HO330 := Aside0.mk (ho); clear HO_10; clear ho hb hg hat))
     go_roundg k2
     case measure => have := HJ4.out; have := HK2.out; omega
     case rel => exact ⟨(y328), (wrap64 (x11_2 + 1)), (by first | rfl | (simp; done) | (simp [*]; done)), H', ⟨by have := HJ4.out; have := HK2.out; omega⟩, ⟨xR HO330.out⟩, ⟨by repeat (first | (with_reducible first | exact HB.out | apply below_alloc | apply pw_below_drewN | apply below_drew1 | refine below_set ?_ GE327.out) | exact HB.out)⟩⟩
/-! ### spec_DrawToneStates: function 24 -/
def spec_DrawToneStates.f (k : Nat) (l0 : List Int) : Option (List Int × Int) := (spec_l1Cur_signal.f k l0 0 0 14 20).bind fun bt335 => ((spec_l1Cur_among.f l0 bt335.2.1 bt335.2.2 (([3, 4, 6, 3, 4, 6, 5, 0, (-4)] : List Int))).bind fun bt343 => (some (bt335.1, bt343.1)))
theorem spec_DrawToneStates.mono : ∀ a0 k, LeO (spec_DrawToneStates.f k a0) (spec_DrawToneStates.f (k + 1) a0) := by
 intro a0 k
 have m0 := @spec_l1Cur_signal.mono
 unfold spec_DrawToneStates.f
 exact xM
set_option maxHeartbeats 8000000 in
set_option maxRecDepth 100000 in
theorem spec_DrawToneStates.calls (k : Nat) (A0 : Option Addr) (c0 : Nat) (l0 : List Int) (r1 : List Int) (r2 : Int) (w : World) (hr0 : Kd.C (Kd.int .u8) w A0 l0.length l0) (hc0 : l0.length ≤ c0) (h : spec_DrawToneStates.f k l0 = some (r1, r2)) :
  Calls Tryd.prog 24 #[.slice A0 l0.length c0] w fun e w' => ∃ v0_ : Value, e = .returned (.tuple #[v0_, .int .i64 r2]) ∧ Kd.R (Kd.int .i64) 3 w' w.heap.size (fun _ => True) v0_ r1 ∧ Below w.heap.size w w' := by
 have hu50 := Tryd.underlying50
 have HR0 := Aside0.mk hr0
 have HC0 := Aside0.mk hc0
 clear hr0 hc0
 have HB := Aside0.mk (Below.refl w.heap.size w)
 have H : ((spec_l1Cur_signal.f k l0 0 0 14 20).bind fun bt335 => ((spec_l1Cur_among.f l0 bt335.2.1 bt335.2.2 (([3, 4, 6, 3, 4, 6, 5, 0, (-4)] : List Int))).bind fun bt343 => (some (bt335.1, bt343.1)))) = some (r1, r2) := h
 clear h
 replace H := Option.bind_eq_some_iff.mp H
 obtain ⟨⟨t335, t338, t339⟩, A20, H⟩ := H
 (try dsimp only at H)
 have A2 := Aside0.mk A20
 clear A20
 obtain ⟨y340, hy340⟩ : ∃ y_ : List Int, y_ = (([3, 4, 6, 3, 4, 6, 5, 0, (-4)] : List Int)) := ⟨_, rfl⟩
 replace H : ((spec_l1Cur_among.f l0 t338 t339 y340).bind fun bt343 => (some (t335, bt343.1))) = some (r1, r2) := by first | (rw [hy340]; with_reducible exact H) | (have H2_ := (Option.bind_some _ _).symm.trans H; rw [hy340]; with_reducible exact H2_) | (have H2_ := (Option.bind_some _ _).symm.trans H; with_reducible exact H2_) | with_reducible exact H | (rw [hy340]; exact H) | exact H
 have Ny340 := Aside0.mk hy340
 clear hy340
 replace H := Option.bind_eq_some_iff.mp H
 obtain ⟨⟨t343, t344, t345⟩, A30, H⟩ := H
 (try dsimp only at H)
 have A3 := Aside0.mk A30
 clear A30
 simp only [Option.some.injEq, Prod.mk.injEq] at H
 obtain ⟨rfl, rfl⟩ := H
 go_enter Tryd.func24, Tryd.ntmps24
 go_wp2_with (first | (refine xV 7 #[.slice A0 l0.length c0, .int .i64 0, .int .u64 0] 50 ?_; intro gb334 hg w4 hbox hb; have HI334 := Aside0.mk ((show IsS50 w _ gb334 l0 0 0 from ⟨_, _, hbox, (by rw [hg]; exact (below_size (xB HB.out)) : w.heap.size ≤ gb334), HR0.out⟩)); replace HB := Aside0.mk (below_step (xB HB.out) hb); clear hb hbox hg) | (refine xG (some 9) Tryd.func37 #[.pointer (some ⟨gb334, 0, none⟩), .int .i64 14, .int .i64 20] ?_; (with_reducible refine (spec_l1Cur_signal.calls k gb334 l0 0 0 14 20 t335 t338 t339 w _ ?side1 ?side2 A2.out).mono ?_); (case side1 => repeat (first | (with_reducible first | exact HI334.out | apply IsS50.alloc | apply IsS50.drewN | apply IsS50.drew | apply IsS50.set_1 | apply IsS50.set_2) | exact HI334.out)); (case side2 => repeat (first | (with_reducible first | exact HB.out | apply below_alloc | apply pw_below_drewN | apply below_drew1 | refine below_set ?_ (IsS50.ge HI334.out)) | exact HB.out)); rintro e w5 ⟨v336, rfl, ho0, hi, hb, hk⟩; refine ⟨_, rfl, ?_⟩; have HO337 := Aside0.mk (Kd.R_lower ho0 (below_size (by repeat (first | (with_reducible first | exact HB.out | apply below_alloc | apply pw_below_drewN | apply below_drew1 | refine below_set ?_ (IsS50.ge HI334.out)) | exact HB.out)))); replace HB := Aside0.mk (hb); replace HI334 := Aside0.mk (hi); (try clear hb); (try clear hb2); (try clear hk); (try clear hi); (try clear ho0)) | ((with_reducible refine gate_dst (N := 11) rfl ?_); refine Kd.R_lit (Kd.int .i64) _ 3 ?hg (N := 11) ?hd (xs := ([3, 4, 6, 3, 4, 6, 5, 0, (-4)] : List Int)) (inner := [.int .i64 3, .int .i64 4, .int .i64 6, .int .i64 3, .int .i64 4, .int .i64 6, .int .i64 5, .int .i64 0, .int .i64 (-4)]) (ok := fun _ => True) (okp := fun _ => True) ?hr ?hp (fun _ hk => hk) trivial (Below.refl _ _) (Nat.le_refl _) (by simp) ?_; (case hd => rfl); (case hg => rfl); (case hr => first | (go_simp; done) | (go_simp; rfl)); (case hp => exact (Reps.one (show Kd.M (Kd.int .i64) _ _ _ 3 [.int .i64 3] from rfl) (Reps.one (show Kd.M (Kd.int .i64) _ _ _ 4 [.int .i64 4] from rfl) (Reps.one (show Kd.M (Kd.int .i64) _ _ _ 6 [.int .i64 6] from rfl) (Reps.one (show Kd.M (Kd.int .i64) _ _ _ 3 [.int .i64 3] from rfl) (Reps.one (show Kd.M (Kd.int .i64) _ _ _ 4 [.int .i64 4] from rfl) (Reps.one (show Kd.M (Kd.int .i64) _ _ _ 6 [.int .i64 6] from rfl) (Reps.one (show Kd.M (Kd.int .i64) _ _ _ 5 [.int .i64 5] from rfl) (Reps.one (show Kd.M (Kd.int .i64) _ _ _ 0 [.int .i64 0] from rfl) (Reps.one (show Kd.M (Kd.int .i64) _ _ _ (-4) [.int .i64 (-4)] from rfl) (Reps.none _ _))))))))))); intro v341 w6 ho7 hb hg_ hnew_; clear hg_ hnew_; (first | rw [← Ny340.out] at ho7 | (simp only [Int.reduceToNat] at ho7; rw [← Ny340.out] at ho7)); have HO342 := Aside0.mk (Kd.R_lower (Kd.R_new' ho7 (Kd.R_lt (xR HO337.out))) (below_size (by repeat (first | (with_reducible first | exact HB.out | apply below_alloc | apply pw_below_drewN | apply below_drew1 | refine below_set ?_ (IsS50.ge HI334.out)) | exact HB.out)))); replace HO337 := Aside0.mk (Kd.R_elder' (xR HO337.out) (Kd.R_base ho7) hb); replace HB := Aside0.mk (below_step (by repeat (first | (with_reducible first | exact HB.out | apply below_alloc | apply pw_below_drewN | apply below_drew1 | refine below_set ?_ (IsS50.ge HI334.out)) | exact HB.out)) hb); replace HI334 := Aside0.mk (IsS50.below (by repeat (first | (with_reducible first | exact HI334.out | apply IsS50.alloc | apply IsS50.drewN | apply IsS50.drew | apply IsS50.set_1 | apply IsS50.set_2) | exact HI334.out)) hb); clear hb ho7; obtain ⟨Ao8, co8, eo8⟩ := Kd.R_slice HO342.out; subst eo8) | (refine xG (some 12) Tryd.func46 #[.pointer (some ⟨gb334, 0, none⟩), .slice Ao8 y340.length co8] ?_; (with_reducible refine (spec_l1Cur_among.calls gb334 l0 t338 t339 _ _ y340 t343 t344 t345 w _ ?side1 ?side2 ?side3 ?side4 ?side5 A3.out).mono ?_); (case side1 => repeat (first | (with_reducible first | exact HI334.out | apply IsS50.alloc | apply IsS50.drewN | apply IsS50.drew | apply IsS50.set_1 | apply IsS50.set_2) | exact HI334.out)); (case side2 => repeat (first | (with_reducible first | exact HB.out | apply below_alloc | apply pw_below_drewN | apply below_drew1 | refine below_set ?_ (IsS50.ge HI334.out)) | exact HB.out)); (case side3 => exact xC ((Kd.R_reads' HO342.out).2.2)); (case side4 => exact (Kd.R_reads' HO342.out).2.1); (case side5 => exact far_slice (IsS50.own_ne HI334.out HO342.out (by decide))); rintro e w9 ⟨rfl, hi, hb, hk⟩; refine ⟨_, rfl, ?_⟩; replace HO337 := Aside0.mk (Kd.R_mono (Kd.R_keep (IsS50.apart (show IsS50 w _ gb334 l0 t338 t339 from by repeat (first | (with_reducible first | exact HI334.out | apply IsS50.alloc | apply IsS50.drewN | apply IsS50.drew | apply IsS50.set_1 | apply IsS50.set_2) | exact HI334.out)) (xR HO337.out) (by decide)) hk (fun _ h => h.2)) (fun _ h => h.1)); replace HO342 := Aside0.mk (Kd.R_mono (Kd.R_keep (IsS50.apart (show IsS50 w _ gb334 l0 t338 t339 from by repeat (first | (with_reducible first | exact HI334.out | apply IsS50.alloc | apply IsS50.drewN | apply IsS50.drew | apply IsS50.set_1 | apply IsS50.set_2) | exact HI334.out)) (xR HO342.out) (by decide)) hk (fun _ h => h.2)) (fun _ h => h.1)); replace HB := Aside0.mk (hb); replace HI334 := Aside0.mk (hi); (try clear hb); (try clear hb2); (try clear hk); (try clear hi)))
 go_ret2
 exact ⟨_, by first | rfl | (simp [errW_none, errW_some] <;> rfl) | (simp [*, errW_none, errW_some] <;> rfl), by (with_reducible repeat (first | apply Kd.R_alloc | apply Kd.R_drewN | apply Kd.R_drew)); exact Kd.R_mono HO337.out (fun _ hk => trivial), by repeat (first | (with_reducible first | exact HB.out | apply below_alloc | apply pw_below_drewN | apply below_drew1 | refine below_set ?_ (IsS50.ge HI334.out)) | exact HB.out)⟩

/-! ### spec_tnBack: function 55 -/
def spec_tnBack.f (a0 : Int) : Option (Int × Bool) := if a0 = 3 then (some ((-1), true)) else (if a0 = 4 then (some (0, true)) else (if a0 = 6 then (some (1, true)) else (some (0, false))))
set_option maxHeartbeats 8000000 in
set_option maxRecDepth 100000 in
theorem spec_tnBack.calls (a0 : Int) (r1 : Int) (r2 : Bool) (w : World) (h : spec_tnBack.f a0 = some (r1, r2)) :
  Calls Tryd.prog 55 #[.int .i64 a0] w fun e w' => e = .returned (.tuple #[.int .i64 r1, .bool r2]) ∧ Drawn0 w w' := by
 have H : (if a0 = 3 then (some ((-1), true)) else (if a0 = 4 then (some (0, true)) else (if a0 = 6 then (some (1, true)) else (some (0, false))))) = some (r1, r2) := h
 clear h
 by_cases c2 : a0 = 3
 ·rw [if_pos c2] at H
  have c2b0 : (a0 == 3) = true := beq_iff_eq.mpr c2
  have c2b1 : (a0 != 3) = false := bne_eq_false_iff_eq.mpr c2
  clear c2
  simp only [Option.some.injEq, Prod.mk.injEq] at H
  obtain ⟨rfl, rfl⟩ := H
  go_enter Tryd.func55, Tryd.ntmps55
  go_wp2
  go_ret2
  exact ⟨by first | rfl | (simp; done) | (simp [*]; done), by repeat (first | exact Drawn0.refl _ | apply Drawn0.step)⟩
 rw [if_neg c2] at H
 have c2b0 : (a0 == 3) = false := beq_eq_false_iff_ne.mpr c2
 have c2b1 : (a0 != 3) = true := bne_iff_ne.mpr c2
 by_cases c3 : a0 = 4
 ·rw [if_pos c3] at H
  have c3b0 : (a0 == 4) = true := beq_iff_eq.mpr c3
  have c3b1 : (a0 != 4) = false := bne_eq_false_iff_eq.mpr c3
  clear c3
  simp only [Option.some.injEq, Prod.mk.injEq] at H
  obtain ⟨rfl, rfl⟩ := H
  go_enter Tryd.func55, Tryd.ntmps55
  go_wp2
  go_ret2
  exact ⟨by first | rfl | (simp; done) | (simp [*]; done), by repeat (first | exact Drawn0.refl _ | apply Drawn0.step)⟩
 rw [if_neg c3] at H
 have c3b0 : (a0 == 4) = false := beq_eq_false_iff_ne.mpr c3
 have c3b1 : (a0 != 4) = true := bne_iff_ne.mpr c3
 by_cases c4 : a0 = 6
 rotate_left
 ·rw [if_neg c4] at H
  have c4b0 : (a0 == 6) = false := beq_eq_false_iff_ne.mpr c4
  have c4b1 : (a0 != 6) = true := bne_iff_ne.mpr c4
  simp only [Option.some.injEq, Prod.mk.injEq] at H
  obtain ⟨rfl, rfl⟩ := H
  go_enter Tryd.func55, Tryd.ntmps55
  go_wp2
  go_ret2
  exact ⟨by first | rfl | (simp; done) | (simp [*]; done), by repeat (first | exact Drawn0.refl _ | apply Drawn0.step)⟩

 rw [if_pos c4] at H
 have c4b0 : (a0 == 6) = true := beq_iff_eq.mpr c4
 have c4b1 : (a0 != 6) = false := bne_eq_false_iff_eq.mpr c4
 clear c4
 simp only [Option.some.injEq, Prod.mk.injEq] at H
 obtain ⟨rfl, rfl⟩ := H
 go_enter Tryd.func55, Tryd.ntmps55
 go_wp2
 go_ret2
 exact ⟨by first | rfl | (simp; done) | (simp [*]; done), by repeat (first | exact Drawn0.refl _ | apply Drawn0.step)⟩
/-! ### spec_tnStates: function 56 -/
def spec_tnStates.l0 : Nat → Int → Int → Int → List Int → Int → Int → Option (Int × Int)
 | 0, _, _, _, _, _, _ => none
 | k + 1, x1, x6, x7, x11, x12, x13 => if x13 < x12 then (if 0 ≤ x13 then (if x13 < (x11.length : Int) then (spec_tnStates.l0 k x1 (wrap64 ((wrap64 ((rd x11 x13) + (wrap64 (x1 * x6)))) - x7)) x6 x11 x12 (wrap64 (x13 + 1))) else (none)) else (none)) else (some (x6, x7))
def spec_tnStates.f (k : Nat) (l0 : List Int) (a1 : Int) : Option (Int × Int) := spec_tnStates.l0 k a1 0 0 l0 (l0.length : Int) 0
theorem spec_tnStates.mono_l : ∀ k, (∀ y0 y1 y2 y3 y4 y5, LeO (spec_tnStates.l0 k y0 y1 y2 y3 y4 y5) (spec_tnStates.l0 (k + 1) y0 y1 y2 y3 y4 y5))
 | 0 => fun _ _ _ _ _ _ r h => by simp [spec_tnStates.l0] at h
 | k + 1 => by
  have ih0 := spec_tnStates.mono_l k
  intros
  unfold spec_tnStates.l0
  exact xM
theorem spec_tnStates.mono : ∀ a0 a1 k, LeO (spec_tnStates.f k a0 a1) (spec_tnStates.f (k + 1) a0 a1) := by
 intro a0 a1 k
 have ih0 := spec_tnStates.mono_l k
 unfold spec_tnStates.f
 exact xM
set_option maxHeartbeats 8000000 in
set_option maxRecDepth 100000 in
theorem spec_tnStates.calls (k : Nat) (A0 : Option Addr) (c0 : Nat) (l0 : List Int) (a1 : Int) (r1 : Int) (r2 : Int) (w : World) (hr0 : Kd.C (Kd.int .i64) w A0 l0.length l0) (hc0 : l0.length ≤ c0) (h : spec_tnStates.f k l0 a1 = some (r1, r2)) :
  Calls Tryd.prog 56 #[.slice A0 l0.length c0, .int .i64 a1] w fun e w' => e = .returned (.tuple #[.int .i64 r1, .int .i64 r2]) ∧ Drawn0 w w' := by
 have HR0 := Aside0.mk hr0
 have HC0 := Aside0.mk hc0
 clear hr0 hc0
 have H : (spec_tnStates.l0 k a1 0 0 l0 (l0.length : Int) 0) = some (r1, r2) := h
 clear h
 have H' := Aside0.mk H
 clear H
 go_enter Tryd.func56, Tryd.ntmps56
 go_wp2
 go_loopg [6, 7, 13] k (fun kq v6 v7 v13 w' => ∃ (x6_1 : Int) (x7_1 : Int) (x13_1 : Int), v6 = .int .i64 x6_1 ∧ v7 = .int .i64 x7_1 ∧ v13 = .int .i64 x13_1 ∧ Aside0 (spec_tnStates.l0 kq a1 x6_1 x7_1 l0 (l0.length : Int) x13_1 = some (r1, r2)) ∧ Aside0 (kq ≤ k) ∧ Drawn0 w w')
 case atStart => exact ⟨(0), (0), (0), (by first | rfl | (simp; done) | (simp [*]; done)), (by first | rfl | (simp; done) | (simp [*]; done)), (by first | rfl | (simp; done) | (simp [*]; done)), H', ⟨Nat.le_refl _⟩, by repeat (first | exact Drawn0.refl _ | apply Drawn0.step)⟩
 case round =>
  clear H'
  obtain ⟨x6_1, x7_1, x13_1, rfl, rfl, rfl, HA, HK1, ⟨m1, rfl⟩⟩ := hrel
  cases gk with
  | zero => exact absurd HA.out (by simp [spec_tnStates.l0])
  | succ k1 =>
   have H := HA.out
   clear HA
   simp only [spec_tnStates.l0] at H
   by_cases c3 : x13_1 < (l0.length : Int)
   rotate_left
   ·rw [if_neg c3] at H
    have c3b0 : decide (x13_1 < (l0.length : Int)) = false := decide_eq_false c3
    clear c3
    simp only [Option.some.injEq, Prod.mk.injEq] at H
    obtain ⟨rfl, rfl⟩ := H
    go_wp2
    go_ret2
    exact ⟨by first | rfl | (simp; done) | (simp [*]; done), by repeat (first | exact Drawn0.refl _ | apply Drawn0.step)⟩

   rw [if_pos c3] at H
   have c3b0 : decide (x13_1 < (l0.length : Int)) = true := decide_eq_true c3
   clear c3
   by_cases c4 : 0 ≤ x13_1
   rotate_left
   ·rw [if_neg c4] at H
    exact absurd H (by simp)
   rw [if_pos c4] at H
   have c4b0 : decide (0 ≤ x13_1) = true := decide_eq_true c4
   clear c4
   by_cases c5 : x13_1 < (l0.length : Int)
   rotate_left
   ·rw [if_neg c5] at H
    exact absurd H (by simp)
   rw [if_pos c5] at H
   have c5b0 : decide (x13_1 < (l0.length : Int)) = true := decide_eq_true c5
   clear c5
   have H' := Aside0.mk H
   clear H
   have p346 : 0 ≤ (x13_1 : Int) := of_decide_eq_true (by first | (with_reducible assumption) | assumption)
   have q346 : x13_1 < (l0.length : Int) := of_decide_eq_true (by first | (with_reducible assumption) | assumption)
   obtain ⟨ad346, e346, hx346_0⟩ := Kd.at_int HR0.out x13_1 p346 q346
   cases e346
   replace p346 := eq_true p346
   replace q346 := eq_true q346
   go_wp2
   go_roundg k1
   case measure => have := HK1.out; omega
   case rel => exact ⟨(wrap64 ((wrap64 ((rd l0 x13_1) + (wrap64 (a1 * x6_1)))) - x7_1)), (x6_1), (wrap64 (x13_1 + 1)), (by first | rfl | (simp; done) | (simp [*]; done)), (by first | rfl | (simp; done) | (simp [*]; done)), (by first | rfl | (simp; done) | (simp [*]; done)), H', ⟨by have := HK1.out; omega⟩, by repeat (first | exact Drawn0.refl _ | apply Drawn0.step)⟩
end Go.Proofs.YtjplcongellcmaaDoor.PFnTonesFound
