/- What each Go function that the statement FnRatesChanged reaches answers, proved call by call. No condition beyond those that the theorems print. (Written by wip/tools/xprint.py of this repo, over the kit's print.) -/
import Derived.Test.YtjplcongellcmaaPFnRatesChangedx0
import Derived.Test.YtjplcongellcmaaPFnRatesChangedx1
import Derived.Test.YtjplcongellcmaaPFnRatesChangedx2
import Derived.Test.YtjplcongellcmaaPFnRatesChangedx3
namespace Go.Proofs.Ytjplcongellcmaa.PFnRatesChanged
open Go.RowKit Go.Proofs.YtjplcongellcmaaW.PrintWords Go.Proofs.YtjplcongellcmaaW.PrintLast Go.Proofs.YtjplcongellcmaaW.PrintMore
attribute [local go_sem] max2_int min2_int max_two min_two max_three min_three max_four min_four   -- for this text's walks alone
set_option linter.unusedVariables false
set_option linter.unusedSimpArgs false
def x4a0 : Array Bool := #[false, false, false, false, false, false, false, false, false, false, false, false, false, false, false, false]
def x4a1 : Array Bool := #[true, false, false, false, false, false, false, false, false, false, false, false, false, false, false, false]
def x4a2 : Array Bool := #[true, true, false, false, false, false, false, false, false, false, false, false, false, false, false, false]
def x4a3 : Array Bool := #[true, true, true, false, false, false, false, false, false, false, false, false, false, false, false, false]
def x4a4 : Array Bool := #[true, true, true, true, false, false, false, false, false, false, false, false, false, false, false, false]
def x4a5 : Array Bool := #[true, true, true, true, true, false, false, false, false, false, false, false, false, false, false, false]
def x4a6 : Array Bool := #[true, true, true, true, true, true, false, false, false, false, false, false, false, false, false, false]
def x4a7 : Array Bool := #[true, true, true, true, true, true, true, false, false, false, false, false, false, false, false, false]
def x4a8 : Array Bool := #[true, true, true, true, true, true, true, true, false, false, false, false, false, false, false, false]
def x4a9 : Array Bool := #[true, true, true, true, true, true, true, true, true, false, false, false, false, false, false, false]
def x4a10 : Array Bool := #[true, true, true, true, true, true, true, true, true, true, false, false, false, false, false, false]
def x4a11 : Array Bool := #[true, true, true, true, true, true, true, true, true, true, true, false, false, false, false, false]
def x4a12 : Array Bool := #[true, true, true, true, true, true, true, true, true, true, true, true, false, false, false, false]
def x4a13 : Array Bool := #[true, true, true, true, true, true, true, true, true, true, true, true, true, false, false, false]
def x4a14 : Array Bool := #[true, true, true, true, true, true, true, true, true, true, true, true, true, true, false, false]
def x4a15 : Array Bool := #[true, true, true, true, true, true, true, true, true, true, true, true, true, true, true, false]
def x4a16 : Array Bool := #[true, true, true, true, true, true, true, true, true, true, true, true, true, true, true, true]

/-! ### spec_NearSamples: function 18 -/
def spec_NearSamples.l0 : Nat → List Int → Int → Int → List Int → Int → Option (List Int × Bool)
 | 0, _, _, _, _, _ => none
 | k + 1, x0, x1, x2, x8, x9 => (spec_rsLength.f (x0.length : Int) x1 x2).bind fun t246 => (if x9 < t246 then (if x1 = 0 then (none) else (if (wrap64 (2 * (Int.tmod (wrap64 (x9 * x2)) x1))) ≥ x1 then (if (wrap64 ((wrap64 (Int.tdiv (wrap64 (x9 * x2)) x1)) + 1)) < (x0.length : Int) then (if 0 ≤ (wrap64 ((wrap64 (Int.tdiv (wrap64 (x9 * x2)) x1)) + 1)) then (if x8.length < 17592186044416 then (spec_NearSamples.l0 k x0 x1 x2 (x8 ++ [rd x0 (wrap64 ((wrap64 (Int.tdiv (wrap64 (x9 * x2)) x1)) + 1))]) (wrap64 (x9 + 1))) else (none)) else (none)) else (if 0 ≤ (wrap64 (Int.tdiv (wrap64 (x9 * x2)) x1)) then (if (wrap64 (Int.tdiv (wrap64 (x9 * x2)) x1)) < (x0.length : Int) then (if x8.length < 17592186044416 then (spec_NearSamples.l0 k x0 x1 x2 (x8 ++ [rd x0 (wrap64 (Int.tdiv (wrap64 (x9 * x2)) x1))]) (wrap64 (x9 + 1))) else (none)) else (none)) else (none))) else (if 0 ≤ (wrap64 (Int.tdiv (wrap64 (x9 * x2)) x1)) then (if (wrap64 (Int.tdiv (wrap64 (x9 * x2)) x1)) < (x0.length : Int) then (if x8.length < 17592186044416 then (spec_NearSamples.l0 k x0 x1 x2 (x8 ++ [rd x0 (wrap64 (Int.tdiv (wrap64 (x9 * x2)) x1))]) (wrap64 (x9 + 1))) else (none)) else (none)) else (none)))) else ((spec_wdIf.f k x8).bind fun bt259 => (some (bt259.1, bt259.2))))
def spec_NearSamples.f (k : Nat) (l0 : List Int) (a1 : Int) (a2 : Int) : Option (List Int × Bool) := (spec_rsGood.f k l0 a1 a2).bind fun t245 => (if t245 = true then (spec_NearSamples.l0 k l0 a1 a2 ([] : List Int) 0) else (some (([] : List Int), false)))
theorem spec_NearSamples.mono_l : ∀ k, (∀ y0 y1 y2 y3 y4, LeO (spec_NearSamples.l0 k y0 y1 y2 y3 y4) (spec_NearSamples.l0 (k + 1) y0 y1 y2 y3 y4))
 | 0 => fun _ _ _ _ _ r h => by simp [spec_NearSamples.l0] at h
 | k + 1 => by
  have ih0 := spec_NearSamples.mono_l k
  have m0 := @spec_rsGood.mono
  have m1 := @spec_wdIf.mono
  intros
  unfold spec_NearSamples.l0
  exact xM
theorem spec_NearSamples.mono : ∀ a0 a1 a2 k, LeO (spec_NearSamples.f k a0 a1 a2) (spec_NearSamples.f (k + 1) a0 a1 a2) := by
 intro a0 a1 a2 k
 have ih0 := spec_NearSamples.mono_l k
 have m0 := @spec_rsGood.mono
 have m1 := @spec_wdIf.mono
 unfold spec_NearSamples.f
 exact xM
set_option maxHeartbeats 8000000 in
set_option maxRecDepth 100000 in
theorem spec_NearSamples.calls (k : Nat) (A0 : Option Addr) (c0 : Nat) (l0 : List Int) (a1 : Int) (a2 : Int) (r1 : List Int) (r2 : Bool) (w : World) (hr0 : Kd.C (Kd.int .i64) w A0 l0.length l0) (hc0 : l0.length ≤ c0) (h : spec_NearSamples.f k l0 a1 a2 = some (r1, r2)) :
  Calls Try.prog 18 #[.slice A0 l0.length c0, .int .i64 a1, .int .i64 a2] w fun e w' => ∃ v0_ : Value, e = .returned (.tuple #[v0_, .bool r2]) ∧ Kd.R (Kd.int .i64) 3 w' w.heap.size (fun _ => True) v0_ r1 ∧ Below w.heap.size w w' := by
 have HR0 := Aside0.mk hr0
 have HC0 := Aside0.mk hc0
 clear hr0 hc0
 have HB := Aside0.mk (Below.refl w.heap.size w)
 have H : ((spec_rsGood.f k l0 a1 a2).bind fun t245 => (if t245 = true then (spec_NearSamples.l0 k l0 a1 a2 ([] : List Int) 0) else (some (([] : List Int), false)))) = some (r1, r2) := h
 clear h
 obtain ⟨t245, A4, H⟩ := xO H
 (try dsimp only at H)
 by_cases c5 : t245 = true
 rotate_left
 ·replace c5 := Bool.eq_false_iff.mpr c5
  subst c5
  rw [if_neg (show ¬ (false = true) by decide)] at H
  simp only [Option.some.injEq, Prod.mk.injEq] at H
  obtain ⟨rfl, rfl⟩ := H
  go_enter Try.func18, Try.ntmps18
  go_wp2_with (first | (refine xG (some 14) Try.func217 #[.slice A0 l0.length c0, .int .i64 a1, .int .i64 a2] ?_; (with_reducible refine (spec_rsGood.calls k _ _ l0 a1 a2 false _ ?side1 ?side2 A4.out).mono ?_); (case side1 => exact xC HR0.out); (case side2 => exact HC0.out); rintro e w' ⟨rfl, ⟨nd, rfl⟩⟩; refine ⟨_, rfl, ?_⟩))
  go_ret2
  exact ⟨_, by first | rfl | (simp [errW_none, errW_some] <;> rfl) | (simp [*, errW_none, errW_some] <;> rfl), by first | exact Kd.R_nil _ _ _ _ _ | exact Kd.N_nil _ _ _ _ _ | exact Kd.V_nil _ _ _ _ _ | exact Kd.Q_nil _ _ _ _ _ | exact Kd.S_nil _ _ _ _ _, xB HB.out⟩

 subst c5
 rw [if_pos rfl] at H
 have H' := Aside0.mk H
 clear H
 go_enter Try.func18, Try.ntmps18
 go_wp2_with (first | (refine xG (some 14) Try.func217 #[.slice A0 l0.length c0, .int .i64 a1, .int .i64 a2] ?_; (with_reducible refine (spec_rsGood.calls k _ _ l0 a1 a2 true _ ?side1 ?side2 A4.out).mono ?_); (case side1 => exact xC HR0.out); (case side2 => exact HC0.out); rintro e w' ⟨rfl, ⟨nd, rfl⟩⟩; refine ⟨_, rfl, ?_⟩))
 go_loopg [8, 9] k (fun kq v8 v9 w' => ∃ (x8_1 : List Int) (x9_1 : Int), v9 = .int .i64 x9_1 ∧ Aside0 (spec_NearSamples.l0 kq l0 a1 a2 x8_1 x9_1 = some (r1, r2)) ∧ Aside0 (kq ≤ k) ∧ Aside0 (Kd.R (Kd.int .i64) 3 w' w.heap.size (fun _ => True) v8 x8_1) ∧ Aside0 (Below w.heap.size w w'))
 case atStart => exact ⟨(([] : List Int)), (0), (by first | rfl | (simp; done) | (simp [*]; done)), H', ⟨Nat.le_refl _⟩, ⟨by first | exact Kd.R_nil _ _ _ _ _ | exact Kd.N_nil _ _ _ _ _ | exact Kd.V_nil _ _ _ _ _ | exact Kd.Q_nil _ _ _ _ _ | exact Kd.S_nil _ _ _ _ _⟩, ⟨xB HB.out⟩⟩
 case round =>
  clear H'
  try clear c5
  obtain ⟨x8_1, x9_1, rfl, HA, HK1, HO_8, HB⟩ := hrel
  cases gk with
  | zero => exact absurd HA.out (by simp [spec_NearSamples.l0])
  | succ k1 =>
   have H := HA.out
   clear HA
   simp only [spec_NearSamples.l0] at H
   obtain ⟨t246, A6, H⟩ := xO H
   (try dsimp only at H)
   by_cases c7 : x9_1 < t246
   rotate_left
   ·rw [if_neg c7] at H
    have c7b0 : decide (x9_1 < t246) = false := decide_eq_false c7
    clear c7
    replace H := Option.bind_eq_some_iff.mp H
    obtain ⟨⟨t259, t262⟩, A250, H⟩ := H
    (try dsimp only at H)
    have A25 := Aside0.mk A250
    clear A250
    simp only [Option.some.injEq, Prod.mk.injEq] at H
    obtain ⟨rfl, rfl⟩ := H
    go_wp2_with (first | (refine xG (some 21) Try.func218 #[.int .i64 (l0.length : Int), .int .i64 a1, .int .i64 a2] ?_; (with_reducible refine (spec_rsLength.calls (l0.length : Int) a1 a2 t246 _ A6.out).mono ?_); rintro e w' ⟨rfl, ⟨nd, rfl⟩⟩; refine ⟨_, rfl, ?_⟩; obtain ⟨Ao26, co26, eo26⟩ := Kd.R_slice HO_8.out; subst eo26) | (refine xG (some 55) Try.func219 #[.slice Ao26 x8_1.length co26] ?_; (with_reducible refine (spec_wdIf.calls k1 (fun k_ => some k_ = (.slice Ao26 x8_1.length co26 : Value).ownBlock) (.slice Ao26 x8_1.length co26) x8_1 t259 t262 w _ ?side1 ?side2 A25.out).mono ?_); (case side1 => repeat (first | (with_reducible first | exact HB.out | apply below_alloc | apply pw_below_drewN | apply below_drew1) | exact HB.out)); (case side2 => exact Kd.R_tight rfl HO_8.out); rintro e w27 ⟨v260, rfl, ho0, hb, hkp⟩; refine ⟨_, rfl, ?_⟩; have HO261 := Aside0.mk (Kd.R_mono (ok' := fun k_ => True) ho0 (fun k_ hk_ => trivial)); replace HB := Aside0.mk (hb); clear HO_8; (try clear hb); (try clear hkp); (try clear ho0)))
    go_ret2
    exact ⟨_, by first | rfl | (simp [errW_none, errW_some] <;> rfl) | (simp [*, errW_none, errW_some] <;> rfl), xR HO261.out, xB HB.out⟩
   rw [if_pos c7] at H
   have c7b0 : decide (x9_1 < t246) = true := decide_eq_true c7
   clear c7
   by_cases c8 : a1 = 0
   ·rw [if_pos c8] at H
    exact absurd H (by simp)
   rw [if_neg c8] at H
   have c8b0 : (a1 == 0) = false := beq_eq_false_iff_ne.mpr c8
   have c8b1 : (a1 != 0) = true := bne_iff_ne.mpr c8
   by_cases c9 : (wrap64 (2 * (Int.tmod (wrap64 (x9_1 * a2)) a1))) ≥ a1
   rotate_left
   ·rw [if_neg c9] at H
    have c9b0 : decide (a1 ≤ (wrap64 (2 * (Int.tmod (wrap64 (x9_1 * a2)) a1)))) = false := decide_eq_false c9
    clear c9
    obtain ⟨ji20, hji20⟩ : ∃ j_ : Int, (wrap64 (Int.tdiv (wrap64 (x9_1 * a2)) a1)) = j_ := ⟨_, rfl⟩
    replace H : (if 0 ≤ (ji20) then (if (ji20) < (l0.length : Int) then (if x8_1.length < 17592186044416 then (spec_NearSamples.l0 k1 l0 a1 a2 (x8_1 ++ [rd l0 (ji20)]) (wrap64 (x9_1 + 1))) else (none)) else (none)) else (none)) = some (r1, r2) := by first | (rw [hji20] at H; exact H) | (simp only [hji20] at H ⊢; exact H)
    (try rw [hji20] at A6)
    have hji20w : (IntKind.i64.wrap (Int.tdiv (wrap64 (x9_1 * a2)) a1)) = ji20 := (i64_w _).trans hji20
    by_cases c21 : 0 ≤ (ji20)
    rotate_left
    ·rw [if_neg c21] at H
     exact absurd H (by simp)
    rw [if_pos c21] at H
    have c21b0 : decide (0 ≤ (ji20)) = true := decide_eq_true c21
    clear c21
    by_cases c22 : (ji20) < (l0.length : Int)
    rotate_left
    ·rw [if_neg c22] at H
     exact absurd H (by simp)
    rw [if_pos c22] at H
    have c22b0 : decide ((ji20) < (l0.length : Int)) = true := decide_eq_true c22
    clear c22
    by_cases c23 : x8_1.length < 17592186044416
    rotate_left
    ·rw [if_neg c23] at H
     exact absurd H (by simp)
    rw [if_pos c23] at H
    have LMc23 := Aside0.mk c23
    clear c23
    obtain ⟨y256, hy256⟩ : ∃ y_ : List Int, y_ = (x8_1 ++ [rd l0 (ji20)]) := ⟨_, rfl⟩
    replace H : (spec_NearSamples.l0 k1 l0 a1 a2 y256 (wrap64 (x9_1 + 1))) = some (r1, r2) := by first | (rw [hy256]; with_reducible exact H) | (have H2_ := (Option.bind_some _ _).symm.trans H; rw [hy256]; with_reducible exact H2_) | (have H2_ := (Option.bind_some _ _).symm.trans H; with_reducible exact H2_) | with_reducible exact H | (rw [hy256]; exact H) | exact H
    have Ny256 := Aside0.mk hy256
    clear hy256
    have H' := Aside0.mk H
    clear H
    go_wp2_with (first | (refine xG (some 21) Try.func218 #[.int .i64 (l0.length : Int), .int .i64 a1, .int .i64 a2] ?_; (with_reducible refine (spec_rsLength.calls (l0.length : Int) a1 a2 t246 _ A6.out).mono ?_); rintro e w' ⟨rfl, ⟨nd, rfl⟩⟩; refine ⟨_, rfl, ?_⟩; have p255 : 0 ≤ ((ji20) : Int) := of_decide_eq_true (by first | (with_reducible assumption) | assumption); have q255 : (ji20) < (l0.length : Int) := of_decide_eq_true (by first | (with_reducible assumption) | assumption); obtain ⟨ad255, e255, hx255_0⟩ := Kd.at_int HR0.out (ji20) p255 q255; cases e255; replace hx255_0 := (HB.out.cell (World.block_lt_of_cell? w _ hx255_0)).trans hx255_0; replace p255 := eq_true p255; replace q255 := eq_true q255) | ((with_reducible refine gate_builtin (b := .append) (xs := #[.tmp 47, .tmp 52]) rfl ?_); (try (refine gate_guard (by rfl) ?_; dsimp only)); at_builtin; refine Kd.R_append (Kd.int .i64) (w0 := w) w.heap.size rfl (.tmp 47) (.tmp 52) 24 3 (.int .i64 0) 8 rfl Try.underlying24 info3 rfl (by decide) (by omega) u8 x8_1 (rd l0 (ji20)) [.int .i64 (rd l0 (ji20))] (fun _ => True) (fun _ => False) rfl rfl ?aP (fun _ hk => hk.elim) ?aF ?aO ?aB ?aS ?aL ?_; (case aP => exact rfl); (case aB => exact (xB HB.out)); (case aF => exact (fun _ _ => trivial)); (case aO => exact (xR HO_8.out)); (case aS => exact (below_size (xB HB.out))); (case aL => have := LMc23.out; omega); intro v257 w24 ho hb hg hat; rw [← Ny256.out] at ho; replace HB := Aside0.mk (hb); have HO258 := Aside0.mk (ho); clear HO_8; clear ho hb hg hat))
    go_roundg k1
    case measure => have := HK1.out; omega
    case rel => exact ⟨(y256), (wrap64 (x9_1 + 1)), (by first | rfl | (simp; done) | (simp [*]; done)), H', ⟨by have := HK1.out; omega⟩, ⟨xR HO258.out⟩, ⟨xB HB.out⟩⟩
   rw [if_pos c9] at H
   have c9b0 : decide (a1 ≤ (wrap64 (2 * (Int.tmod (wrap64 (x9_1 * a2)) a1)))) = true := decide_eq_true c9
   clear c9
   by_cases c10 : (wrap64 ((wrap64 (Int.tdiv (wrap64 (x9_1 * a2)) a1)) + 1)) < (l0.length : Int)
   ·rw [if_pos c10] at H
    have c10b0 : decide ((wrap64 ((wrap64 (Int.tdiv (wrap64 (x9_1 * a2)) a1)) + 1)) < (l0.length : Int)) = true := decide_eq_true c10
    clear c10
    obtain ⟨ji11, hji11⟩ : ∃ j_ : Int, (wrap64 ((wrap64 (Int.tdiv (wrap64 (x9_1 * a2)) a1)) + 1)) = j_ := ⟨_, rfl⟩
    replace H : (if 0 ≤ (ji11) then (if x8_1.length < 17592186044416 then (spec_NearSamples.l0 k1 l0 a1 a2 (x8_1 ++ [rd l0 (ji11)]) (wrap64 (x9_1 + 1))) else (none)) else (none)) = some (r1, r2) := by first | (rw [hji11] at H; exact H) | (simp only [hji11] at H ⊢; exact H)
    (try rw [hji11] at c10b0)
    (try rw [hji11] at A6)
    have hji11w : (IntKind.i64.wrap ((wrap64 (Int.tdiv (wrap64 (x9_1 * a2)) a1)) + 1)) = ji11 := (i64_w _).trans hji11
    by_cases c12 : 0 ≤ (ji11)
    rotate_left
    ·rw [if_neg c12] at H
     exact absurd H (by simp)
    rw [if_pos c12] at H
    have c12b0 : decide (0 ≤ (ji11)) = true := decide_eq_true c12
    clear c12
    by_cases c13 : x8_1.length < 17592186044416
    rotate_left
    ·rw [if_neg c13] at H
     exact absurd H (by simp)
    rw [if_pos c13] at H
    have LMc13 := Aside0.mk c13
    clear c13
    obtain ⟨y248, hy248⟩ : ∃ y_ : List Int, y_ = (x8_1 ++ [rd l0 (ji11)]) := ⟨_, rfl⟩
    replace H : (spec_NearSamples.l0 k1 l0 a1 a2 y248 (wrap64 (x9_1 + 1))) = some (r1, r2) := by first | (rw [hy248]; with_reducible exact H) | (have H2_ := (Option.bind_some _ _).symm.trans H; rw [hy248]; with_reducible exact H2_) | (have H2_ := (Option.bind_some _ _).symm.trans H; with_reducible exact H2_) | with_reducible exact H | (rw [hy248]; exact H) | exact H
    have Ny248 := Aside0.mk hy248
    clear hy248
    have H' := Aside0.mk H
    clear H
    go_wp2_with (first | (refine xG (some 21) Try.func218 #[.int .i64 (l0.length : Int), .int .i64 a1, .int .i64 a2] ?_; (with_reducible refine (spec_rsLength.calls (l0.length : Int) a1 a2 t246 _ A6.out).mono ?_); rintro e w' ⟨rfl, ⟨nd, rfl⟩⟩; refine ⟨_, rfl, ?_⟩; have p247 : 0 ≤ ((ji11) : Int) := of_decide_eq_true (by first | (with_reducible assumption) | assumption); have q247 : (ji11) < (l0.length : Int) := of_decide_eq_true (by first | (with_reducible assumption) | assumption); obtain ⟨ad247, e247, hx247_0⟩ := Kd.at_int HR0.out (ji11) p247 q247; cases e247; replace hx247_0 := (HB.out.cell (World.block_lt_of_cell? w _ hx247_0)).trans hx247_0; replace p247 := eq_true p247; replace q247 := eq_true q247) | ((with_reducible refine gate_builtin (b := .append) (xs := #[.tmp 47, .tmp 52]) rfl ?_); (try (refine gate_guard (by rfl) ?_; dsimp only)); at_builtin; refine Kd.R_append (Kd.int .i64) (w0 := w) w.heap.size rfl (.tmp 47) (.tmp 52) 24 3 (.int .i64 0) 8 rfl Try.underlying24 info3 rfl (by decide) (by omega) u8 x8_1 (rd l0 (ji11)) [.int .i64 (rd l0 (ji11))] (fun _ => True) (fun _ => False) rfl rfl ?aP (fun _ hk => hk.elim) ?aF ?aO ?aB ?aS ?aL ?_; (case aP => exact rfl); (case aB => exact (xB HB.out)); (case aF => exact (fun _ _ => trivial)); (case aO => exact (xR HO_8.out)); (case aS => exact (below_size (xB HB.out))); (case aL => have := LMc13.out; omega); intro v249 w14 ho hb hg hat; rw [← Ny248.out] at ho; replace HB := Aside0.mk (hb); have HO250 := Aside0.mk (ho); clear HO_8; clear ho hb hg hat))
    go_roundg k1
    case measure => have := HK1.out; omega
    case rel => exact ⟨(y248), (wrap64 (x9_1 + 1)), (by first | rfl | (simp; done) | (simp [*]; done)), H', ⟨by have := HK1.out; omega⟩, ⟨xR HO250.out⟩, ⟨xB HB.out⟩⟩
   rw [if_neg c10] at H
   have c10b0 : decide ((wrap64 ((wrap64 (Int.tdiv (wrap64 (x9_1 * a2)) a1)) + 1)) < (l0.length : Int)) = false := decide_eq_false c10
   clear c10
   obtain ⟨ji15, hji15⟩ : ∃ j_ : Int, (wrap64 (Int.tdiv (wrap64 (x9_1 * a2)) a1)) = j_ := ⟨_, rfl⟩
   replace H : (if 0 ≤ (ji15) then (if (ji15) < (l0.length : Int) then (if x8_1.length < 17592186044416 then (spec_NearSamples.l0 k1 l0 a1 a2 (x8_1 ++ [rd l0 (ji15)]) (wrap64 (x9_1 + 1))) else (none)) else (none)) else (none)) = some (r1, r2) := by first | (rw [hji15] at H; exact H) | (simp only [hji15] at H ⊢; exact H)
   (try rw [hji15] at c10b0)
   (try rw [hji15] at A6)
   have hji15w : (IntKind.i64.wrap (Int.tdiv (wrap64 (x9_1 * a2)) a1)) = ji15 := (i64_w _).trans hji15
   by_cases c16 : 0 ≤ (ji15)
   rotate_left
   ·rw [if_neg c16] at H
    exact absurd H (by simp)
   rw [if_pos c16] at H
   have c16b0 : decide (0 ≤ (ji15)) = true := decide_eq_true c16
   clear c16
   by_cases c17 : (ji15) < (l0.length : Int)
   rotate_left
   ·rw [if_neg c17] at H
    exact absurd H (by simp)
   rw [if_pos c17] at H
   have c17b0 : decide ((ji15) < (l0.length : Int)) = true := decide_eq_true c17
   clear c17
   by_cases c18 : x8_1.length < 17592186044416
   rotate_left
   ·rw [if_neg c18] at H
    exact absurd H (by simp)
   rw [if_pos c18] at H
   have LMc18 := Aside0.mk c18
   clear c18
   obtain ⟨y252, hy252⟩ : ∃ y_ : List Int, y_ = (x8_1 ++ [rd l0 (ji15)]) := ⟨_, rfl⟩
   replace H : (spec_NearSamples.l0 k1 l0 a1 a2 y252 (wrap64 (x9_1 + 1))) = some (r1, r2) := by first | (rw [hy252]; with_reducible exact H) | (have H2_ := (Option.bind_some _ _).symm.trans H; rw [hy252]; with_reducible exact H2_) | (have H2_ := (Option.bind_some _ _).symm.trans H; with_reducible exact H2_) | with_reducible exact H | (rw [hy252]; exact H) | exact H
   have Ny252 := Aside0.mk hy252
   clear hy252
   have H' := Aside0.mk H
   clear H
   go_wp2_with (first | (refine xG (some 21) Try.func218 #[.int .i64 (l0.length : Int), .int .i64 a1, .int .i64 a2] ?_; (with_reducible refine (spec_rsLength.calls (l0.length : Int) a1 a2 t246 _ A6.out).mono ?_); rintro e w' ⟨rfl, ⟨nd, rfl⟩⟩; refine ⟨_, rfl, ?_⟩; have p251 : 0 ≤ ((ji15) : Int) := of_decide_eq_true (by first | (with_reducible assumption) | assumption); have q251 : (ji15) < (l0.length : Int) := of_decide_eq_true (by first | (with_reducible assumption) | assumption); obtain ⟨ad251, e251, hx251_0⟩ := Kd.at_int HR0.out (ji15) p251 q251; cases e251; replace hx251_0 := (HB.out.cell (World.block_lt_of_cell? w _ hx251_0)).trans hx251_0; replace p251 := eq_true p251; replace q251 := eq_true q251) | ((with_reducible refine gate_builtin (b := .append) (xs := #[.tmp 47, .tmp 52]) rfl ?_); (try (refine gate_guard (by rfl) ?_; dsimp only)); at_builtin; refine Kd.R_append (Kd.int .i64) (w0 := w) w.heap.size rfl (.tmp 47) (.tmp 52) 24 3 (.int .i64 0) 8 rfl Try.underlying24 info3 rfl (by decide) (by omega) u8 x8_1 (rd l0 (ji15)) [.int .i64 (rd l0 (ji15))] (fun _ => True) (fun _ => False) rfl rfl ?aP (fun _ hk => hk.elim) ?aF ?aO ?aB ?aS ?aL ?_; (case aP => exact rfl); (case aB => exact (xB HB.out)); (case aF => exact (fun _ _ => trivial)); (case aO => exact (xR HO_8.out)); (case aS => exact (below_size (xB HB.out))); (case aL => have := LMc18.out; omega); intro v253 w19 ho hb hg hat; rw [← Ny252.out] at ho; replace HB := Aside0.mk (hb); have HO254 := Aside0.mk (ho); clear HO_8; clear ho hb hg hat))
   go_roundg k1
   case measure => have := HK1.out; omega
   case rel => exact ⟨(y252), (wrap64 (x9_1 + 1)), (by first | rfl | (simp; done) | (simp [*]; done)), H', ⟨by have := HK1.out; omega⟩, ⟨xR HO254.out⟩, ⟨xB HB.out⟩⟩
/-! ### impl_LineSamples_c1: function 221 -/
def impl_LineSamples_c1.f (a0 : Int) (a1 : Int) (l2 : List Int) (a3 : Int) : Option (Int) := if 0 ≤ (mn (wrap64 (a0 + 1)) (wrap64 ((l2.length : Int) - 1))) then (if (mn (wrap64 (a0 + 1)) (wrap64 ((l2.length : Int) - 1))) < (l2.length : Int) then (if 0 ≤ a0 then (if a0 < (l2.length : Int) then (some (wrap64 ((wrap64 (a3 * (rd l2 a0))) + (wrap64 (a1 * (wrap64 ((rd l2 (mn (wrap64 (a0 + 1)) (wrap64 ((l2.length : Int) - 1)))) - (rd l2 a0)))))))) else (none)) else (none)) else (none)) else (none)
set_option maxHeartbeats 8000000 in
set_option maxRecDepth 100000 in
theorem impl_LineSamples_c1.calls (a0 : Int) (a1 : Int) (A2 : Option Addr) (c2 : Nat) (l2 : List Int) (a3 : Int) (r : Int) (w : World) (hr2 : Kd.C (Kd.int .i64) w A2 l2.length l2) (hc2 : l2.length ≤ c2) (q0 : Nat) (hq0 : w.heap[q0]? = some (.cells #[.slice A2 l2.length c2] 24 (0, 0))) (q1 : Nat) (hq1 : w.heap[q1]? = some (.cells #[.int .i64 a3] 3 (0, 0))) (h : impl_LineSamples_c1.f a0 a1 l2 a3 = some r) :
  Calls Try.prog 221 #[.int .i64 a0, .int .i64 a1, .pointer (some ⟨q0, 0, none⟩), .pointer (some ⟨q1, 0, none⟩)] w fun e w' => e = .returned (.int .i64 r) ∧ Below w.heap.size w w' := by
 have hcq0 : w.cell? ⟨q0, 0, none⟩ = some (.slice A2 l2.length c2) := (blk_cell hq0 0).trans rfl
 clear hq0
 have hcq1 : w.cell? ⟨q1, 0, none⟩ = some (.int .i64 a3) := (blk_cell hq1 0).trans rfl
 clear hq1
 have HR2 := Aside0.mk hr2
 have HC2 := Aside0.mk hc2
 clear hr2 hc2
 have HB := Aside0.mk (Below.refl w.heap.size w)
 have H : (if 0 ≤ (mn (wrap64 (a0 + 1)) (wrap64 ((l2.length : Int) - 1))) then (if (mn (wrap64 (a0 + 1)) (wrap64 ((l2.length : Int) - 1))) < (l2.length : Int) then (if 0 ≤ a0 then (if a0 < (l2.length : Int) then (some (wrap64 ((wrap64 (a3 * (rd l2 a0))) + (wrap64 (a1 * (wrap64 ((rd l2 (mn (wrap64 (a0 + 1)) (wrap64 ((l2.length : Int) - 1)))) - (rd l2 a0)))))))) else (none)) else (none)) else (none)) else (none)) = some r := h
 clear h
 obtain ⟨ji5, hji5⟩ : ∃ j_ : Int, (mn (wrap64 (a0 + 1)) (wrap64 ((l2.length : Int) - 1))) = j_ := ⟨_, rfl⟩
 replace H : (if 0 ≤ (ji5) then (if (ji5) < (l2.length : Int) then (if 0 ≤ a0 then (if a0 < (l2.length : Int) then (some (wrap64 ((wrap64 (a3 * (rd l2 a0))) + (wrap64 (a1 * (wrap64 ((rd l2 (ji5)) - (rd l2 a0)))))))) else (none)) else (none)) else (none)) else (none)) = some r := by first | (rw [hji5] at H; exact H) | (simp only [hji5] at H ⊢; exact H)
 have hji5_ : (if (wrap64 ((l2.length : Int) - 1)) < (wrap64 (a0 + 1)) then (wrap64 ((l2.length : Int) - 1)) else (wrap64 (a0 + 1))) = ji5 := hji5
 by_cases c6 : 0 ≤ (ji5)
 rotate_left
 ·rw [if_neg c6] at H
  exact absurd H (by simp)

 rw [if_pos c6] at H
 have c6b0 : decide (0 ≤ (ji5)) = true := decide_eq_true c6
 clear c6
 by_cases c7 : (ji5) < (l2.length : Int)
 rotate_left
 ·rw [if_neg c7] at H
  exact absurd H (by simp)
 rw [if_pos c7] at H
 have c7b0 : decide ((ji5) < (l2.length : Int)) = true := decide_eq_true c7
 clear c7
 by_cases c8 : 0 ≤ a0
 rotate_left
 ·rw [if_neg c8] at H
  exact absurd H (by simp)
 rw [if_pos c8] at H
 have c8b0 : decide (0 ≤ a0) = true := decide_eq_true c8
 clear c8
 by_cases c9 : a0 < (l2.length : Int)
 rotate_left
 ·rw [if_neg c9] at H
  exact absurd H (by simp)
 rw [if_pos c9] at H
 have c9b0 : decide (a0 < (l2.length : Int)) = true := decide_eq_true c9
 clear c9
 obtain rfl := Option.some.inj H
 have p263 : 0 ≤ ((ji5) : Int) := of_decide_eq_true (by first | (with_reducible assumption) | assumption | (rw [← hji5]; first | (with_reducible assumption) | assumption))
 have q263 : (ji5) < (l2.length : Int) := of_decide_eq_true (by first | (with_reducible assumption) | assumption | (rw [← hji5]; first | (with_reducible assumption) | assumption))
 obtain ⟨ad263, e263, hx263_0⟩ := Kd.at_int HR2.out (ji5) p263 q263
 cases e263
 replace p263 := eq_true p263
 replace q263 := eq_true q263
 have p264 : 0 ≤ (a0 : Int) := of_decide_eq_true (by first | (with_reducible assumption) | assumption)
 have q264 : a0 < (l2.length : Int) := of_decide_eq_true (by first | (with_reducible assumption) | assumption)
 obtain ⟨ad264, e264, hx264_0⟩ := Kd.at_int HR2.out a0 p264 q264
 obtain rfl : ad263 = ad264 := (by injection e264)
 replace p264 := eq_true p264
 replace q264 := eq_true q264
 have p265 : 0 ≤ (a0 : Int) := of_decide_eq_true (by first | (with_reducible assumption) | assumption)
 have q265 : a0 < (l2.length : Int) := of_decide_eq_true (by first | (with_reducible assumption) | assumption)
 obtain ⟨ad265, e265, hx265_0⟩ := Kd.at_int HR2.out a0 p265 q265
 obtain rfl : ad263 = ad265 := (by injection e265)
 replace p265 := eq_true p265
 replace q265 := eq_true q265
 go_enter Try.func221, Try.ntmps221
 go_wp2
 repeat (go_quiet (fail); try go_wp2)
 go_ret
 exact ⟨by first | rfl | (simp [errW_none, errW_some] <;> rfl) | (simp only [← hji5]; first | rfl | (simp [errW_none, errW_some] <;> rfl)) | (simp [*, errW_none, errW_some] <;> rfl), xB HB.out⟩
/-! ### impl_resample_impl_LineSamples_c1: function 426 -/
mutual
def impl_resample_impl_LineSamples_c1.j0 : Nat → List Int → Int → Int → Bool → Option (List Int × Bool)
 | 0, _, _, _, _ => none
 | k + 1, x0, x1, x2, x20 => if x20 = true then (some (([] : List Int), false)) else ((impl_lengthAfter.f (x0.length : Int) x1 x2).bind fun t271 => (impl_resample_impl_LineSamples_c1.l0 k x0 x1 x2 (([] : List Int)) t271 0))
def impl_resample_impl_LineSamples_c1.l0 : Nat → List Int → Int → Int → List Int → Int → Int → Option (List Int × Bool)
 | 0, _, _, _, _, _, _ => none
 | k + 1, x0, x1, x2, x10, x26, x27 => if x27 < x26 then (if x1 = 0 then (none) else ((impl_LineSamples_c1.f (wrap64 (Int.tdiv (wrap64 (x27 * x2)) x1)) (Int.tmod (wrap64 (x27 * x2)) x1) x0 x1).bind fun t272 => (if x10.length < 17592186044416 then (impl_resample_impl_LineSamples_c1.l0 k x0 x1 x2 (x10 ++ [t272]) x26 (wrap64 (x27 + 1))) else (none)))) else ((impl_told.f k x10).bind fun bt276 => (some (bt276.1, bt276.2)))
end
def impl_resample_impl_LineSamples_c1.f (k : Nat) (l0 : List Int) (a1 : Int) (a2 : Int) : Option (List Int × Bool) := (impl_isSignal.f k l0).bind fun t266 => (if t266 = true then ((impl_isRatio.f a1 a2).bind fun t267 => (impl_resample_impl_LineSamples_c1.j0 k l0 a1 a2 (!t267))) else (impl_resample_impl_LineSamples_c1.j0 k l0 a1 a2 true))
theorem impl_resample_impl_LineSamples_c1.mono_l : ∀ k, (∀ y0 y1 y2 y3, LeO (impl_resample_impl_LineSamples_c1.j0 k y0 y1 y2 y3) (impl_resample_impl_LineSamples_c1.j0 (k + 1) y0 y1 y2 y3)) ∧ (∀ y0 y1 y2 y3 y4 y5, LeO (impl_resample_impl_LineSamples_c1.l0 k y0 y1 y2 y3 y4 y5) (impl_resample_impl_LineSamples_c1.l0 (k + 1) y0 y1 y2 y3 y4 y5))
 | 0 => ⟨fun _ _ _ _ r h => by simp [impl_resample_impl_LineSamples_c1.j0] at h, fun _ _ _ _ _ _ r h => by simp [impl_resample_impl_LineSamples_c1.l0] at h⟩
 | k + 1 => by
  obtain ⟨ih0, ih1⟩ := impl_resample_impl_LineSamples_c1.mono_l k
  have m0 := @impl_isSignal.mono
  have m1 := @impl_told.mono
  refine ⟨?_, ?_⟩ <;> intros
  ·unfold impl_resample_impl_LineSamples_c1.j0; exact xM
  ·unfold impl_resample_impl_LineSamples_c1.l0; exact xM
theorem impl_resample_impl_LineSamples_c1.mono : ∀ a0 a1 a2 k, LeO (impl_resample_impl_LineSamples_c1.f k a0 a1 a2) (impl_resample_impl_LineSamples_c1.f (k + 1) a0 a1 a2) := by
 intro a0 a1 a2 k
 obtain ⟨ih0, ih1⟩ := impl_resample_impl_LineSamples_c1.mono_l k
 have m0 := @impl_isSignal.mono
 have m1 := @impl_told.mono
 unfold impl_resample_impl_LineSamples_c1.f
 exact xM
def impl_resample_impl_LineSamples_c1.T7 : Bool × List (List Nat × List Nat) := (true, [([], []), ([], []), ([], []), ([], []), ([2, 3], [2, 3]), ([], []), ([4, 5], [4, 5]), ([], []), ([], []), ([7, 8], [7, 8]), ([], []), ([9, 10], [9, 10]), ([1, 6, 11], [1, 6, 11]), ([12], [12]), ([0, 13, 12], [0, 13]), ([14, 14, 0, 1, 2, 3, 4, 5, 6, 7, 8, 9, 10, 11, 12, 13, 14], [0, 14])])
def impl_resample_impl_LineSamples_c1.B7 : List Nat := [0, 0, 0, 0, 12, 0, 60, 0, 0, 384, 0, 1920, 4094, 8190, 16383, 32767]
theorem impl_resample_impl_LineSamples_c1.tab7 : rtab .any (opsOf Try.f215 7) = impl_resample_impl_LineSamples_c1.T7 := by kernel_rfl
theorem impl_resample_impl_LineSamples_c1.bits7 : waitsOk impl_resample_impl_LineSamples_c1.T7.2 impl_resample_impl_LineSamples_c1.B7 = true := by kernel_rfl
set_option maxHeartbeats 8000000 in
set_option maxRecDepth 100000 in
theorem impl_resample_impl_LineSamples_c1.calls (k : Nat) (A0 : Option Addr) (c0 : Nat) (l0 : List Int) (a1 : Int) (a2 : Int) (r1 : List Int) (r2 : Bool) (w : World) (hr0 : Kd.C (Kd.int .i64) w A0 l0.length l0) (hc0 : l0.length ≤ c0) (q0 : Nat) (hq0 : w.heap[q0]? = some (.cells #[.slice A0 l0.length c0] 24 (0, 0))) (q1 : Nat) (hq1 : w.heap[q1]? = some (.cells #[.int .i64 a1] 3 (0, 0))) (h : impl_resample_impl_LineSamples_c1.f k l0 a1 a2 = some (r1, r2)) :
  Calls Try.prog 215 #[.slice A0 l0.length c0, .int .i64 a1, .int .i64 a2, .func (.func 221) #[] #[.pointer (some ⟨q0, 0, none⟩), .pointer (some ⟨q1, 0, none⟩)]] w fun e w' => ∃ v0_ : Value, e = .returned (.tuple #[v0_, .bool r2]) ∧ Kd.R (Kd.int .i64) 3 w' w.heap.size (fun _ => True) v0_ r1 ∧ Below w.heap.size w w' := by
 have HQ0 := Aside0.mk hq0
 clear hq0
 have HQ1 := Aside0.mk hq1
 clear hq1
 have HR0 := Aside0.mk hr0
 have HC0 := Aside0.mk hc0
 clear hr0 hc0
 have HB := Aside0.mk (Below.refl w.heap.size w)
 have H : ((impl_isSignal.f k l0).bind fun t266 => (if t266 = true then ((impl_isRatio.f a1 a2).bind fun t267 => (impl_resample_impl_LineSamples_c1.j0 k l0 a1 a2 (!t267))) else (impl_resample_impl_LineSamples_c1.j0 k l0 a1 a2 true))) = some (r1, r2) := h
 clear h
 have HC4 := Aside0.mk H
 clear H
 go_enter Try.func215, Try.ntmps215
 go_upto_region 1 with (fail)
 go_cut [20] (fun v20 wc => ∃ (kq : Nat) (x20_3 : Bool), v20 = .bool x20_3 ∧ Aside0 (impl_resample_impl_LineSamples_c1.j0 kq l0 a1 a2 x20_3 = some (r1, r2)) ∧ Aside0 (kq ≤ k) ∧ Aside0 (Below w.heap.size w wc))
 case first => as_aux_lemma =>
  have H := HC4.out
  clear HC4
  obtain ⟨t266, A5, H⟩ := xO H
  (try dsimp only at H)
  by_cases c6 : t266 = true
  rotate_left
  ·replace c6 := Bool.eq_false_iff.mpr c6
   subst c6
   rw [if_neg (show ¬ (false = true) by decide)] at H
   have H' := Aside0.mk H
   clear H
   go_wp2_with (first | (go_at_call 233; (with_reducible refine (impl_isSignal.calls k _ _ l0 false _ ?side1 ?side2 A5.out).mono ?_); (case side1 => exact xC (Kd.C_below HR0.out HB.out)); (case side2 => exact HC0.out); rintro e w' ⟨rfl, ⟨nd, rfl⟩⟩))
   go_meet
   case rel => exact ⟨_, (true), (by first | rfl | (simp; done) | (simp [*]; done)), H', ⟨by first | omega | exact Nat.le_refl _⟩, ⟨xB HB.out⟩⟩
  subst c6
  rw [if_pos rfl] at H
  obtain ⟨t267, A7, H⟩ := xO H
  (try dsimp only at H)
  have H' := Aside0.mk H
  clear H
  go_wp2_with (first | (go_at_call 233; (with_reducible refine (impl_isSignal.calls k _ _ l0 true _ ?side1 ?side2 A5.out).mono ?_); (case side1 => exact xC (Kd.C_below HR0.out HB.out)); (case side2 => exact HC0.out); rintro e w' ⟨rfl, ⟨nd, rfl⟩⟩) | (go_at_call 224; (with_reducible refine (impl_isRatio.calls a1 a2 t267 _ A7.out).mono ?_); rintro e w' ⟨rfl, ⟨nd, rfl⟩⟩))
  go_meet
  case rel => exact ⟨_, (!t267), (by first | rfl | (simp; done) | (simp [*]; done)), H', ⟨by first | omega | exact Nat.le_refl _⟩, ⟨xB HB.out⟩⟩
 case rest => as_aux_lemma =>
  clear HC4
  obtain ⟨kq, x20_3, rfl, HA, HJ3, HB⟩ := hcut
  cases kq with
  | zero => exact absurd HA.out (by simp [impl_resample_impl_LineSamples_c1.j0])
  | succ kj3 =>
   have H := HA.out
   clear HA
   simp only [impl_resample_impl_LineSamples_c1.j0] at H
   by_cases c8 : x20_3 = true
   ·subst c8
    rw [if_pos rfl] at H
    simp only [Option.some.injEq, Prod.mk.injEq] at H
    obtain ⟨rfl, rfl⟩ := H
    go_wp2
    go_ret2
    exact ⟨_, by first | rfl | (simp [errW_none, errW_some] <;> rfl) | (simp [*, errW_none, errW_some] <;> rfl), by first | exact Kd.R_nil _ _ _ _ _ | exact Kd.N_nil _ _ _ _ _ | exact Kd.V_nil _ _ _ _ _ | exact Kd.Q_nil _ _ _ _ _ | exact Kd.S_nil _ _ _ _ _, xB HB.out⟩
   replace c8 := Bool.eq_false_iff.mpr c8
   subst c8
   rw [if_neg (show ¬ (false = true) by decide)] at H
   obtain ⟨y268, hy268⟩ : ∃ y_ : List Int, y_ = (([] : List Int)) := ⟨_, rfl⟩
   replace H : ((impl_lengthAfter.f (l0.length : Int) a1 a2).bind fun t271 => (impl_resample_impl_LineSamples_c1.l0 kj3 l0 a1 a2 y268 t271 0)) = some (r1, r2) := by first | (rw [hy268]; with_reducible exact H) | (have H2_ := (Option.bind_some _ _).symm.trans H; rw [hy268]; with_reducible exact H2_) | (have H2_ := (Option.bind_some _ _).symm.trans H; with_reducible exact H2_) | with_reducible exact H | (rw [hy268]; exact H) | exact H
   have Ny268 := Aside0.mk hy268
   clear hy268
   obtain ⟨t271, A9, H⟩ := xO H
   (try dsimp only at H)
   have H' := Aside0.mk H
   clear H
   go_wp2_with (first | ((with_reducible refine gate_dst (N := 21) rfl ?_); refine Kd.R_lit (Kd.int .i64) _ 3 ?hg (N := 21) ?hd (xs := ([] : List Int)) (inner := []) (ok := fun _ => True) (okp := fun _ => True) ?hr ?hp (fun _ hk => hk) trivial (Below.refl _ _) (Nat.le_refl _) (by simp) ?_; (case hd => rfl); (case hg => rfl); (case hr => first | (go_simp; done) | (go_simp; rfl)); (case hp => exact (Reps.none _ _)); intro v269 w10 ho11 hb hg_ hnew_; clear hg_ hnew_; (first | rw [← Ny268.out] at ho11 | (simp only [Int.reduceToNat] at ho11; rw [← Ny268.out] at ho11)); have HO270 := Aside0.mk (Kd.R_lower ho11 (below_size (xB HB.out))); replace HB := Aside0.mk (below_step (xB HB.out) hb); clear hb ho11) | (go_at_call 225; (with_reducible refine (impl_lengthAfter.calls (l0.length : Int) a1 a2 t271 _ A9.out).mono ?_); rintro e w' ⟨rfl, ⟨nd, rfl⟩⟩))
   go_loopg [10, 27] kj3 (fun kq v10 v27 w' => ∃ (x10_2 : List Int) (x27_2 : Int), v27 = .int .i64 x27_2 ∧ Aside0 (impl_resample_impl_LineSamples_c1.l0 kq l0 a1 a2 x10_2 t271 x27_2 = some (r1, r2)) ∧ Aside0 (kq ≤ kj3) ∧ Aside0 (Kd.R (Kd.int .i64) 3 w' w.heap.size (fun _ => True) v10 x10_2) ∧ Aside0 (Below w.heap.size w w'))
   case atStart => exact ⟨(y268), (0), (by first | rfl | (simp; done) | (simp [*]; done)), H', ⟨Nat.le_refl _⟩, ⟨xR HO270.out⟩, ⟨xB HB.out⟩⟩
   case round =>
    clear H'
    try clear c8
    obtain ⟨x10_2, x27_2, rfl, HA, HK2, HO_10, HB⟩ := hrel
    cases gk with
    | zero => exact absurd HA.out (by simp [impl_resample_impl_LineSamples_c1.l0])
    | succ k2 =>
     have H := HA.out
     clear HA
     simp only [impl_resample_impl_LineSamples_c1.l0] at H
     by_cases c12 : x27_2 < t271
     rotate_left
     ·rw [if_neg c12] at H
      have c12b0 : decide (x27_2 < t271) = false := decide_eq_false c12
      clear c12
      replace H := Option.bind_eq_some_iff.mp H
      obtain ⟨⟨t276, t279⟩, A190, H⟩ := H
      (try dsimp only at H)
      have A19 := Aside0.mk A190
      clear A190
      simp only [Option.some.injEq, Prod.mk.injEq] at H
      obtain ⟨rfl, rfl⟩ := H
      obtain ⟨Ao20, co20, eo20⟩ := Kd.R_slice HO_10.out
      subst eo20
      go_wp2_with (first | (go_at_call 239; (with_reducible refine (impl_told.calls k2 (fun k_ => some k_ = (.slice Ao20 x10_2.length co20 : Value).ownBlock) (.slice Ao20 x10_2.length co20) x10_2 t276 t279 w _ ?side1 ?side2 A19.out).mono ?_); (case side1 => repeat (first | (with_reducible first | exact HB.out | apply below_alloc | apply pw_below_drewN | apply below_drew1) | exact HB.out)); (case side2 => exact Kd.R_tight rfl HO_10.out); rintro e w21 ⟨v277, rfl, ho0, hb, hkp⟩; have HO278 := Aside0.mk (Kd.R_mono (ok' := fun k_ => True) ho0 (fun k_ hk_ => trivial)); replace HB := Aside0.mk (hb); clear HO_10; (try clear hb); (try clear hkp); (try clear ho0)))
      go_ret2
      exact ⟨_, by first | rfl | (simp [errW_none, errW_some] <;> rfl) | (simp [*, errW_none, errW_some] <;> rfl), xR HO278.out, xB HB.out⟩

     rw [if_pos c12] at H
     have c12b0 : decide (x27_2 < t271) = true := decide_eq_true c12
     clear c12
     by_cases c13 : a1 = 0
     ·rw [if_pos c13] at H
      exact absurd H (by simp)
     rw [if_neg c13] at H
     have c13b0 : (a1 == 0) = false := beq_eq_false_iff_ne.mpr c13
     have c13b1 : (a1 != 0) = true := bne_iff_ne.mpr c13
     obtain ⟨t272, A14, H⟩ := xO H
     (try dsimp only at H)
     by_cases c15 : x10_2.length < 17592186044416
     rotate_left
     ·rw [if_neg c15] at H
      exact absurd H (by simp)
     rw [if_pos c15] at H
     have LMc15 := Aside0.mk c15
     clear c15
     obtain ⟨y273, hy273⟩ : ∃ y_ : List Int, y_ = (x10_2 ++ [t272]) := ⟨_, rfl⟩
     replace H : (impl_resample_impl_LineSamples_c1.l0 k2 l0 a1 a2 y273 t271 (wrap64 (x27_2 + 1))) = some (r1, r2) := by first | (rw [hy273]; with_reducible exact H) | (have H2_ := (Option.bind_some _ _).symm.trans H; rw [hy273]; with_reducible exact H2_) | (have H2_ := (Option.bind_some _ _).symm.trans H; with_reducible exact H2_) | with_reducible exact H | (rw [hy273]; exact H) | exact H
     have Ny273 := Aside0.mk hy273
     clear hy273
     have H' := Aside0.mk H
     clear H
     try go_wp2
     have n0_ := Aside0.mk (Kd.R_drew HO_10.out)
     have n1_ := Aside0.mk (below_drew1 HB.out)
     clear HO_10
     clear HB
     have HO_10 := n0_
     have HB := n1_
     clear n0_ n1_
     refine start_ (n := 16) (S := fun w' => True) (ds := []) x4a0 (by kernel_rfl) rfl rfl trivial (fun hHeld => ?_); refine with_tabW impl_resample_impl_LineSamples_c1.tab7 impl_resample_impl_LineSamples_c1.bits7 (fun HT_ HW_ => ?_)
     generalize wr.drew = w16 at HO_10 HB hHeld ⊢
     refine pure_ (i := 0) (N := some 30) (v := ?_) (a' := ?_) x4a1 rfl rfl (any_of HT_.out (by kernel_rfl)) (fun _ _ _ h => h) (Or.inl ⟨by rfl, ?_⟩) ?_ ?_; rotate_left; (intro w'; go_simp; with_reducible rfl); rotate_left; exact xE
     refine pure_ (i := 1) (N := some 31) (v := ?_) (a' := ?_) x4a2 rfl rfl (any_of HT_.out (by kernel_rfl)) (fun _ _ _ h => h) (Or.inl ⟨by rfl, ?_⟩) ?_ ?_; rotate_left; (intro w'; go_simp; with_reducible rfl); rotate_left; exact xE
     refine pure_ (i := 2) (N := some 32) (v := ?_) (a' := ?_) x4a3 rfl rfl (any_of HT_.out (by kernel_rfl)) (fun _ _ _ h => h) (Or.inl ⟨by rfl, ?_⟩) ?_ ?_; rotate_left; (intro w'; go_simp; with_reducible rfl); rotate_left; exact xE
     refine pure_ (i := 3) (N := some 33) (v := ?_) (a' := ?_) x4a4 rfl rfl (any_of HT_.out (by kernel_rfl)) (fun _ _ _ h => h) (Or.inl ⟨by rfl, ?_⟩) ?_ ?_; rotate_left; (intro w'; go_simp; with_reducible rfl); rotate_left; exact xE
     refine pure_ (i := 4) (N := some 34) (v := ?_) (a' := ?_) x4a5 rfl rfl (any_of HT_.out (by kernel_rfl)) (fun _ _ _ h => h) (Or.inl ⟨by rfl, ?_⟩) ?_ ?_; rotate_left; (intro w'; go_simp; with_reducible rfl); rotate_left; exact xE
     refine pure_ (i := 5) (N := some 35) (v := ?_) (a' := ?_) x4a6 rfl rfl (any_of HT_.out (by kernel_rfl)) (fun _ _ _ h => h) (Or.inl ⟨by rfl, ?_⟩) ?_ ?_; rotate_left; (intro w'; go_simp; with_reducible rfl); rotate_left; exact xE
     refine pure_ (i := 6) (N := some 36) (v := ?_) (a' := ?_) x4a7 rfl rfl (any_of HT_.out (by kernel_rfl)) (fun _ _ _ h => h) (Or.inl ⟨by rfl, ?_⟩) ?_ ?_; rotate_left; (intro w'; go_simp; with_reducible rfl); rotate_left; exact xE
     refine pure_ (i := 7) (N := some 37) (v := ?_) (a' := ?_) x4a8 rfl rfl (any_of HT_.out (by kernel_rfl)) (fun _ _ _ h => h) (Or.inl ⟨by rfl, ?_⟩) ?_ ?_; rotate_left; (intro w'; go_simp; with_reducible rfl); rotate_left; exact xE
     refine pure_ (i := 8) (N := some 38) (v := ?_) (a' := ?_) x4a9 rfl rfl (any_of HT_.out (by kernel_rfl)) (fun _ _ _ h => h) (Or.inl ⟨by rfl, ?_⟩) ?_ ?_; rotate_left; (intro w'; go_simp; with_reducible rfl); rotate_left; exact xE
     refine pure_ (i := 9) (N := some 39) (v := ?_) (a' := ?_) x4a10 rfl rfl (any_of HT_.out (by kernel_rfl)) (fun _ _ _ h => h) (Or.inl ⟨by rfl, ?_⟩) ?_ ?_; rotate_left; (intro w'; go_simp; with_reducible rfl); rotate_left; exact xE
     refine pure_ (i := 10) (N := some 40) (v := ?_) (a' := ?_) x4a11 rfl rfl (any_of HT_.out (by kernel_rfl)) (fun _ _ _ h => h) (Or.inl ⟨by rfl, ?_⟩) ?_ ?_; rotate_left; (intro w'; go_simp; with_reducible rfl); rotate_left; exact xE
     refine pure_ (i := 11) (N := some 41) (v := ?_) (a' := ?_) x4a12 rfl rfl (any_of HT_.out (by kernel_rfl)) (fun _ _ _ h => h) (Or.inl ⟨by rfl, ?_⟩) ?_ ?_; rotate_left; (intro w'; go_simp; with_reducible rfl); rotate_left; exact xE
     refine one_ (i := 12) (N := some 42) x4a13 rfl rfl (one_of HT_.out (by kernel_rfl)) (by decide) (fun K hK => ?_)
     refine xgoesv_ Try.func221 (by kernel_rfl) rfl #[.int .i64 (wrap64 (Int.tdiv (wrap64 (x27_2 * a2)) a1)), .int .i64 (Int.tmod (wrap64 (x27_2 * a2)) a1)] #[.int .i64 (wrap64 (Int.tdiv (wrap64 (x27_2 * a2)) a1)), .int .i64 (Int.tmod (wrap64 (x27_2 * a2)) a1), .pointer (some ⟨q0, 0, none⟩), .pointer (some ⟨q1, 0, none⟩)] (by rfl) rfl rfl rfl (by (try simp only [List.map_toArray, List.map_cons, List.map_nil]); first | done | rfl | (simp only [List.length_drop, List.length_take]; rfl)) rfl ?_
     with_reducible refine (impl_LineSamples_c1.calls (wrap64 (Int.tdiv (wrap64 (x27_2 * a2)) a1)) (Int.tmod (wrap64 (x27_2 * a2)) a1) A0 c0 l0 a1 t272 _ ?side1 ?side2 _ ?sq0 _ ?sq1 A14.out).mono ?_
     (case sq0 => (with_reducible repeat (first | refine blk_drewN ?_ _ | refine blk_drew ?_ | refine blk_alloc ?_ _)); exact blk_below HQ0.out HB.out)
     (case sq1 => (with_reducible repeat (first | refine blk_drewN ?_ _ | refine blk_drew ?_ | refine blk_alloc ?_ _)); exact blk_below HQ1.out HB.out)
     (case side1 => exact xC (Kd.C_below HR0.out HB.out))
     (case side2 => exact HC0.out)
     rintro e w17 ⟨rfl, hb⟩
     refine ⟨_, rfl, ?_⟩
     have n0_ := Aside0.mk (Kd.R_below (xR HO_10.out) hb)
     have n1_ := Aside0.mk (below_step (xB HB.out) hb)
     clear HO_10
     clear HB
     have HO_10 := n0_
     have HB := n1_
     clear n0_ n1_
     (try clear hb)
     (try clear hb2)
     (try clear hk)
     (try clear hi)
     refine hK.out _ _ trivial (fun hHeld => ?_)
     clear hK K
     refine norm_ (a' := ?_) ?_ ?_
     rotate_left
     ·show Act.put _ (some 42) _ = _
      simp only [Act.put, List.setIfInBounds_toArray, List.set_cons_zero, List.set_cons_succ, i64_w, i32_w]
      rfl
     refine one_ (i := 13) (N := some 43) x4a14 rfl rfl (one_of HT_.out (by kernel_rfl)) (by decide) (fun K hK => ?_)
     refine value_ (w1 := ?_) (v := ?_) (by rfl) rfl ?_ ?_
     rotate_left 2
     ·go_simp
      constructor
      ·rfl
      ·rfl
     refine hK.out _ _ trivial (fun hHeld => ?_)
     clear hK K
     refine norm_ (a' := ?_) ?_ ?_
     rotate_left
     ·show Act.put _ (some 43) _ = _
      simp only [Act.put, List.setIfInBounds_toArray, List.set_cons_zero, List.set_cons_succ, i64_w, i32_w]
      rfl
     refine one_ (i := 14) (N := some 44) x4a15 rfl rfl (one_of HT_.out (by kernel_rfl)) (by decide) (fun K hK => ?_)
     refine Kd.R_append_step (Kd.int .i64) (w0 := w) w.heap.size (by rfl) (.tmp 30) (.tmp 43) 24 3 (.int .i64 0) 8 rfl Try.underlying24 info3 rfl (by decide) (by omega) u10 x10_2 t272 [.int .i64 t272] (fun _ => True) (fun _ => False) rfl rfl ?aP (fun _ hk => hk.elim) ?aF ?aO ?aB ?aS ?aL ?_
     (case aP => exact rfl)
     (case aB => exact (xB HB.out))
     (case aF => exact (fun _ _ => trivial))
     (case aO => exact (xR HO_10.out))
     (case aS => exact (below_size (xB HB.out)))
     (case aL => have := LMc15.out; omega)
     intro v274 w18 ho hb hg hat
     rw [← Ny273.out] at ho
     have n0_ := Aside0.mk (hb)
     have n1_ := Aside0.mk (ho)
     clear HB
     clear HO_10
     have HB := n0_
     have HO275 := n1_
     clear n0_ n1_
     clear ho hb hg hat
     refine hK.out _ _ trivial (fun hHeld => ?_)
     clear hK K
     refine norm_ (a' := ?_) ?_ ?_
     rotate_left
     ·show Act.put _ (some 44) _ = _
      simp only [Act.put, List.setIfInBounds_toArray, List.set_cons_zero, List.set_cons_succ, i64_w, i32_w]
      rfl
     refine pure_ (i := 15) (N := some 10) (v := ?_) (a' := ?_) x4a16 rfl rfl (any_of HT_.out (by kernel_rfl)) (fun _ _ _ h => h) (Or.inl ⟨by rfl, ?_⟩) ?_ ?_; rotate_left; (intro w'; go_simp; with_reducible rfl); rotate_left; exact xE
     refine done_ (done_of HT_.out (by kernel_rfl)) ?_
     try go_wp2
     go_roundg k2
     case measure => have := HJ3.out; have := HK2.out; omega
     case rel => exact ⟨(y273), (wrap64 (x27_2 + 1)), (by first | rfl | (simp; done) | (simp [*]; done)), H', ⟨by have := HJ3.out; have := HK2.out; omega⟩, ⟨xR HO275.out⟩, ⟨xB HB.out⟩⟩
/-! ### impl_LineSamples: function 19 -/
def impl_LineSamples.f (k : Nat) (l0 : List Int) (a1 : Int) (a2 : Int) : Option (List Int × Bool) := (impl_resample_impl_LineSamples_c1.f k l0 a1 a2).bind fun bt280 => (some (bt280.1, bt280.2))
theorem impl_LineSamples.mono : ∀ a0 a1 a2 k, LeO (impl_LineSamples.f k a0 a1 a2) (impl_LineSamples.f (k + 1) a0 a1 a2) := by
 intro a0 a1 a2 k
 have m0 := @impl_resample_impl_LineSamples_c1.mono
 unfold impl_LineSamples.f
 exact xM
set_option maxHeartbeats 8000000 in
set_option maxRecDepth 100000 in
theorem impl_LineSamples.calls (k : Nat) (A0 : Option Addr) (c0 : Nat) (l0 : List Int) (a1 : Int) (a2 : Int) (r1 : List Int) (r2 : Bool) (w : World) (hr0 : Kd.C (Kd.int .i64) w A0 l0.length l0) (hc0 : l0.length ≤ c0) (h : impl_LineSamples.f k l0 a1 a2 = some (r1, r2)) :
  Calls Try.prog 19 #[.slice A0 l0.length c0, .int .i64 a1, .int .i64 a2] w fun e w' => ∃ v0_ : Value, e = .returned (.tuple #[v0_, .bool r2]) ∧ Kd.R (Kd.int .i64) 3 w' w.heap.size (fun _ => True) v0_ r1 ∧ Below w.heap.size w w' := by
 have HR0 := Aside0.mk hr0
 have HC0 := Aside0.mk hc0
 clear hr0 hc0
 have HB := Aside0.mk (Below.refl w.heap.size w)
 have H : ((impl_resample_impl_LineSamples_c1.f k l0 a1 a2).bind fun bt280 => (some (bt280.1, bt280.2))) = some (r1, r2) := h
 clear h
 replace H := Option.bind_eq_some_iff.mp H
 obtain ⟨⟨t280, t281⟩, A40, H⟩ := H
 (try dsimp only at H)
 have A4 := Aside0.mk A40
 clear A40
 simp only [Option.some.injEq, Prod.mk.injEq] at H
 obtain ⟨rfl, rfl⟩ := H
 go_enter Try.func19, Try.ntmps19
 go_wp2_with (first | (refine xV 3 #[.slice A0 l0.length c0] 24 ?_; intro gq0 hg wq0 hbox hb; replace HB := Aside0.mk (below_step (xB HB.out) hb); have BKQ0 := Aside0.mk hbox; clear hb hbox hg) | (refine xV 4 #[.int .i64 a1] 3 ?_; intro gq1 hg wq1 hbox hb; have n0_ := Aside0.mk (below_step (xB HB.out) hb); have nq0_ := Aside0.mk (blk_below (g := gq0) (o := .cells #[.slice A0 l0.length c0] 24 (0, 0)) (by (with_reducible repeat (first | refine blk_drewN ?_ _ | refine blk_drew ?_ | refine blk_alloc ?_ _)); exact BKQ0.out) hb); clear BKQ0; have BKQ0 := nq0_; clear nq0_; clear HB; have HB := n0_; clear n0_; have BKQ1 := Aside0.mk hbox; clear hb hbox hg; have hcq0 : wq1.cell? ⟨gq0, 0, none⟩ = some (.slice A0 l0.length c0) := (blk_cell BKQ0.out 0).trans rfl; have hcq1 : wq1.cell? ⟨gq1, 0, none⟩ = some (.int .i64 a1) := (blk_cell BKQ1.out 0).trans rfl) | (refine xG (some 12) Try.func215 #[.slice A0 l0.length c0, .int .i64 a1, .int .i64 a2, .func (.func 221) #[] #[.pointer (some ⟨gq0, 0, none⟩), .pointer (some ⟨gq1, 0, none⟩)]] ?_; (with_reducible refine (impl_resample_impl_LineSamples_c1.calls k _ _ l0 a1 a2 t280 t281 _ ?side1 ?side2 _ ?sq0 _ ?sq1 A4.out).mono ?_); (case sq0 => (with_reducible repeat (first | refine blk_drewN ?_ _ | refine blk_drew ?_ | refine blk_alloc ?_ _)); exact BKQ0.out); (case sq1 => (with_reducible repeat (first | refine blk_drewN ?_ _ | refine blk_drew ?_ | refine blk_alloc ?_ _)); exact BKQ1.out); (case side1 => repeat (first | exact HR0.out | exact (Kd.C_below HR0.out HB.out) | (with_reducible refine Kd.C_alloc ?_ _) | (with_reducible refine Kd.C_drewN ?_ _) | (with_reducible refine Kd.C_drew ?_))); (case side2 => exact HC0.out); rintro e w5 ⟨v282, rfl, ho0, hb⟩; refine ⟨_, rfl, ?_⟩; have HO283 := Aside0.mk (Kd.R_lower ho0 (below_size (xB HB.out))); replace HB := Aside0.mk (below_step (xB HB.out) hb); (try clear hb); (try clear hb2); (try clear hk); (try clear hi); (try clear ho0)))
 go_ret2
 exact ⟨_, by first | rfl | (simp [errW_none, errW_some] <;> rfl) | (simp [*, errW_none, errW_some] <;> rfl), xR HO283.out, xB HB.out⟩

end Go.Proofs.Ytjplcongellcmaa.PFnRatesChanged
