/- What each Go function that the statement FnFirstRuns reaches answers, proved call by call. No condition beyond those that the theorems print. (Written by wip/tools/xprint.py of this repo, over the kit's print.) -/
import Derived.Test.YtjplcongellcmaaPFnFirstRunsx0
import Derived.Test.YtjplcongellcmaaPFnFirstRunsx5
import Derived.Test.YtjplcongellcmaaPFnFirstRunsx6
import Derived.Test.YtjplcongellcmaaPFnFirstRunsx9
namespace Go.Proofs.Ytjplcongellcmaa.PFnFirstRuns
open Go.RowKit Go.Proofs.YtjplcongellcmaaW.PrintWords Go.Proofs.YtjplcongellcmaaW.PrintLast Go.Proofs.YtjplcongellcmaaW.PrintMore
attribute [local go_sem] max2_int min2_int max_two min_two max_three min_three max_four min_four   -- for this text's walks alone
set_option linter.unusedVariables false
set_option linter.unusedSimpArgs false

/-! ### impl_lowest: function 296 -/
def impl_lowest.f (k : Nat) (a0 : Int) (a1 : Int) : Option (Int × Int) := (impl_gcd.f k a0 a1).bind fun t401 => (if a1 < 0 then (if (wrap64 (-t401)) = 0 then (none) else (some (wrap64 (Int.tdiv a0 (wrap64 (-t401))), wrap64 (Int.tdiv a1 (wrap64 (-t401)))))) else (if t401 = 0 then (none) else (some (wrap64 (Int.tdiv a0 t401), wrap64 (Int.tdiv a1 t401)))))
theorem impl_lowest.mono : ∀ a0 a1 k, LeO (impl_lowest.f k a0 a1) (impl_lowest.f (k + 1) a0 a1) := by
 intro a0 a1 k
 have m0 := @impl_gcd.mono
 unfold impl_lowest.f
 exact xM
set_option maxHeartbeats 200000000 in
set_option maxRecDepth 100000 in
theorem impl_lowest.calls (k : Nat) (a0 : Int) (a1 : Int) (r1 : Int) (r2 : Int) (w : World) (h : impl_lowest.f k a0 a1 = some (r1, r2)) :
  Calls Try.prog 296 #[.int .i64 a0, .int .i64 a1] w fun e w' => e = .returned (.tuple #[.int .i64 r1, .int .i64 r2]) ∧ Below w.heap.size w w' := by
 have HB := xA (Below.refl w.heap.size w)
 have H : ((impl_gcd.f k a0 a1).bind fun t401 => (if a1 < 0 then (if (wrap64 (-t401)) = 0 then (none) else (some (wrap64 (Int.tdiv a0 (wrap64 (-t401))), wrap64 (Int.tdiv a1 (wrap64 (-t401)))))) else (if t401 = 0 then (none) else (some (wrap64 (Int.tdiv a0 t401), wrap64 (Int.tdiv a1 t401)))))) = some (r1, r2) := h
 clear h
 obtain ⟨t401, A3, H⟩ := xO H
 (try dsimp only at H)
 by_cases c4 : a1 < 0
 ·rw [if_pos c4] at H
  have c4b0 : decide (a1 < 0) = true := decide_eq_true c4
  clear c4
  by_cases c5 : (wrap64 (-t401)) = 0
  ·rw [if_pos c5] at H
   exact absurd H (by simp)
  rw [if_neg c5] at H
  have c5b0 : ((wrap64 (-t401)) == 0) = false := beq_eq_false_iff_ne.mpr c5
  have c5b1 : ((wrap64 (-t401)) != 0) = true := bne_iff_ne.mpr c5
  simp only [Option.some.injEq, Prod.mk.injEq] at H
  obtain ⟨rfl, rfl⟩ := H
  go_enter Try.func296, Try.ntmps296
  go_wp2_with (first | (go_at_call 226; (with_reducible refine (impl_gcd.calls k a0 a1 t401 _ A3.out).mono ?_); rintro e w6 ⟨rfl, hb⟩; replace HB := xA (below_step (xB HB.out) hb); (try clear hb)))
  repeat (go_quiet (first | (go_at_call 226; (with_reducible refine (impl_gcd.calls k a0 a1 t401 _ A3.out).mono ?_); rintro e w6 ⟨rfl, hb⟩; replace HB := xA (below_step (xB HB.out) hb); (try clear hb))); try go_wp2_with (first | (go_at_call 226; (with_reducible refine (impl_gcd.calls k a0 a1 t401 _ A3.out).mono ?_); rintro e w6 ⟨rfl, hb⟩; replace HB := xA (below_step (xB HB.out) hb); (try clear hb))))
  go_ret2
  exact ⟨xr, xB HB.out⟩
 rw [if_neg c4] at H
 have c4b0 : decide (a1 < 0) = false := decide_eq_false c4
 clear c4
 by_cases c7 : t401 = 0
 ·rw [if_pos c7] at H
  exact absurd H (by simp)
 rw [if_neg c7] at H
 have c7b0 : (t401 == 0) = false := beq_eq_false_iff_ne.mpr c7
 have c7b1 : (t401 != 0) = true := bne_iff_ne.mpr c7
 simp only [Option.some.injEq, Prod.mk.injEq] at H
 obtain ⟨rfl, rfl⟩ := H
 go_enter Try.func296, Try.ntmps296
 go_wp2_with (first | (go_at_call 226; (with_reducible refine (impl_gcd.calls k a0 a1 t401 _ A3.out).mono ?_); rintro e w8 ⟨rfl, hb⟩; replace HB := xA (below_step (xB HB.out) hb); (try clear hb)))
 repeat (go_quiet (first | (go_at_call 226; (with_reducible refine (impl_gcd.calls k a0 a1 t401 _ A3.out).mono ?_); rintro e w8 ⟨rfl, hb⟩; replace HB := xA (below_step (xB HB.out) hb); (try clear hb))); try go_wp2_with (first | (go_at_call 226; (with_reducible refine (impl_gcd.calls k a0 a1 t401 _ A3.out).mono ?_); rintro e w8 ⟨rfl, hb⟩; replace HB := xA (below_step (xB HB.out) hb); (try clear hb))))
 go_ret2
 exact ⟨xr, xB HB.out⟩

/-! ### impl_ErrorBound: function 93 -/
def impl_ErrorBound.j0 : Nat → Bool → Int → Int → Int → Int → Bool → Option (Int × Int × Bool)
 | 0, _, _, _, _, _, _ => none
 | k + 1, x15, x403000, x403001, x403002, x403003, x403004 => if x15 = true then (some (0, 0, false)) else (if 0 ≤ x403001 then ((impl_size.f x403000).bind fun t405 => (if x403002 = 1 then ((impl_lowest.f k (shl .i64 1 x403001) (wrap64 ((wrap64 ((shl .i64 1 x403001) - t405)) * 2))).bind fun bt406 => (some (bt406.1, bt406.2, true))) else ((impl_lowest.f k (shl .i64 1 x403001) (wrap64 ((shl .i64 1 x403001) - t405))).bind fun bt408 => (some (bt408.1, bt408.2, true))))) else (none))
def impl_ErrorBound.f (k : Nat) (a0_0 : Int) (a0_1 : Int) (a0_2 : Int) (a0_3 : Int) (a0_4 : Bool) : Option (Int × Int × Bool) := (impl_isFirst.f a0_0 a0_1 a0_2 a0_3 a0_4).bind fun t403 => (if t403 = true then ((impl_First_isShrinking.f a0_0 a0_1 a0_2 a0_3 a0_4).bind fun t404 => (impl_ErrorBound.j0 k (!t404) a0_0 a0_1 a0_2 a0_3 a0_4)) else (impl_ErrorBound.j0 k true a0_0 a0_1 a0_2 a0_3 a0_4))
theorem impl_ErrorBound.mono_l : ∀ k, (∀ y0 y1 y2 y3 y4 y5, LeO (impl_ErrorBound.j0 k y0 y1 y2 y3 y4 y5) (impl_ErrorBound.j0 (k + 1) y0 y1 y2 y3 y4 y5))
 | 0 => fun _ _ _ _ _ _ r h => by simp [impl_ErrorBound.j0] at h
 | k + 1 => by
  have ih0 := impl_ErrorBound.mono_l k
  have m0 := @impl_lowest.mono
  intros
  unfold impl_ErrorBound.j0
  exact xM
theorem impl_ErrorBound.mono : ∀ a0 a1 a2 a3 a4 k, LeO (impl_ErrorBound.f k a0 a1 a2 a3 a4) (impl_ErrorBound.f (k + 1) a0 a1 a2 a3 a4) := by
 intro a0 a1 a2 a3 a4 k
 have ih0 := impl_ErrorBound.mono_l k
 have m0 := @impl_lowest.mono
 unfold impl_ErrorBound.f
 exact xM
set_option maxHeartbeats 200000000 in
set_option maxRecDepth 100000 in
theorem impl_ErrorBound.calls (k : Nat) (a0_0 : Int) (a0_1 : Int) (a0_2 : Int) (a0_3 : Int) (a0_4 : Bool) (r1 : Int) (r2 : Int) (r3 : Bool) (w : World) (h : impl_ErrorBound.f k a0_0 a0_1 a0_2 a0_3 a0_4 = some (r1, r2, r3)) :
  Calls Try.prog 93 #[.agg #[.int .i64 a0_0, .int .i64 a0_1, .int .i64 a0_2, .int .i64 a0_3, .bool a0_4]] w fun e w' => e = .returned (.tuple #[.int .i64 r1, .int .i64 r2, .bool r3]) ∧ Below w.heap.size w w' := by
 have hu62 := Try.underlying62
 have HB := xA (Below.refl w.heap.size w)
 have H : ((impl_isFirst.f a0_0 a0_1 a0_2 a0_3 a0_4).bind fun t403 => (if t403 = true then ((impl_First_isShrinking.f a0_0 a0_1 a0_2 a0_3 a0_4).bind fun t404 => (impl_ErrorBound.j0 k (!t404) a0_0 a0_1 a0_2 a0_3 a0_4)) else (impl_ErrorBound.j0 k true a0_0 a0_1 a0_2 a0_3 a0_4))) = some (r1, r2, r3) := h
 clear h
 have HC2 := xA H
 clear H
 go_enter Try.func93, Try.ntmps93
 go_upto_region 1 with (first | (refine xg 1 rfl ?_; refine xV 1 #[.int .i64 a0_0, .int .i64 a0_1, .int .i64 a0_2, .int .i64 a0_3, .bool a0_4] 62 ?_; intro gb402 hg w3 hbox hb; have BK402 := xA (hbox); have GW402 := xgw hg (below_size (xB HB.out)); have GE402 := GW402; replace HB := xA (below_step (xB HB.out) hb); clear hb hbox hg))
 (try simp only [Act.put, List.setIfInBounds_toArray, List.set_cons_zero, List.set_cons_succ])
 go_cut [15] from 8 to 8 (fun v15 wc => ∃ (kq : Nat) (x15_1 : Bool), v15 = .bool x15_1 ∧ Aside0 (impl_ErrorBound.j0 kq x15_1 a0_0 a0_1 a0_2 a0_3 a0_4 = some (r1, r2, r3)) ∧ Aside0 (kq ≤ k) ∧ Aside0 (wc.heap[gb402]? = some (.cells #[.int .i64 a0_0, .int .i64 a0_1, .int .i64 a0_2, .int .i64 a0_3, .bool a0_4] 62 (0, 0))) ∧ Aside0 (Below w.heap.size w wc))
 case first => as_aux_lemma =>
  have H := HC2.out
  clear HC2
  obtain ⟨t403, A4, H⟩ := xO H
  (try dsimp only at H)
  by_cases c5 : t403 = true
  rotate_left
  ·replace c5 := Bool.eq_false_iff.mpr c5
   subst c5
   rw [if_neg (show ¬ (false = true) by decide)] at H
   have H' := xA H
   clear H
   replace hz402 := blk_cell BK402.out; replace hy402 := blk_frozen BK402.out
   go_wp2_with (first | (refine xG (some 9) Try.func294 #[.agg #[.int .i64 a0_0, .int .i64 a0_1, .int .i64 a0_2, .int .i64 a0_3, .bool a0_4]] ?_; (with_reducible refine (impl_isFirst.calls a0_0 a0_1 a0_2 a0_3 a0_4 false _ A4.out).mono ?_); rintro e w12 ⟨rfl, hb⟩; refine ⟨_, rfl, ?_⟩; replace BK402 := xkb BK402 hb; replace HB := xA (below_step (xB1 GE402.out HB.out) hb); (try clear hb)))
   go_meet
   case rel => exact ⟨_, (true), xs, H', ⟨by first | omega | exact Nat.le_refl _⟩, ⟨xK BK402.out⟩, ⟨xB1 GE402.out HB.out⟩⟩
  subst c5
  rw [if_pos rfl] at H
  obtain ⟨t404, A6, H⟩ := xO H
  (try dsimp only at H)
  have H' := xA H
  clear H
  replace hz402 := blk_cell BK402.out; replace hy402 := blk_frozen BK402.out
  go_wp2_with (first | (refine xG (some 9) Try.func294 #[.agg #[.int .i64 a0_0, .int .i64 a0_1, .int .i64 a0_2, .int .i64 a0_3, .bool a0_4]] ?_; (with_reducible refine (impl_isFirst.calls a0_0 a0_1 a0_2 a0_3 a0_4 true _ A4.out).mono ?_); rintro e w8 ⟨rfl, hb⟩; refine ⟨_, rfl, ?_⟩; replace BK402 := xkb BK402 hb; replace HB := xA (below_step (xB1 GE402.out HB.out) hb); (try clear hb); replace hz402 := blk_cell BK402.out; replace hy402 := blk_frozen BK402.out) | (go_at_call 295; (with_reducible refine (impl_First_isShrinking.calls a0_0 a0_1 a0_2 a0_3 a0_4 t404 _ A6.out).mono ?_); rintro e w10 ⟨rfl, hb⟩; replace BK402 := xkb BK402 hb; replace HB := xA (below_step (xB1 GE402.out HB.out) hb); (try clear hb)))
  go_meet
  case rel => exact ⟨_, (!t404), xs, H', ⟨by first | omega | exact Nat.le_refl _⟩, ⟨xK BK402.out⟩, ⟨xB1 GE402.out HB.out⟩⟩
 case rest => as_aux_lemma =>
  clear HC2
  obtain ⟨kq, x15_1, rfl, HA, HJ1, BK402, HB⟩ := hcut
  cases kq with
  | zero => exact absurd HA.out (by simp [impl_ErrorBound.j0])
  | succ kj1 =>
   have H := HA.out
   clear HA
   simp only [impl_ErrorBound.j0] at H
   by_cases c13 : x15_1 = true
   ·subst c13
    rw [if_pos rfl] at H
    simp only [Option.some.injEq, Prod.mk.injEq] at H
    obtain ⟨rfl, rfl, rfl⟩ := H
    go_wp2
    go_ret3
    exact ⟨xr, xB1 GE402.out HB.out⟩
   replace c13 := Bool.eq_false_iff.mpr c13
   subst c13
   rw [if_neg (show ¬ (false = true) by decide)] at H
   by_cases c14 : 0 ≤ a0_1
   rotate_left
   ·rw [if_neg c14] at H
    exact absurd H (by simp)

   rw [if_pos c14] at H
   have c14b0 := eq_true c14
   have c14b1 : decide (0 ≤ a0_1) = true := decide_eq_true c14
   clear c14
   obtain ⟨ji15, hji15⟩ : ∃ j_ : Int, (shl .i64 1 a0_1) = j_ := ⟨_, rfl⟩
   (first | rw [hji15] at H | simp only [hji15] at H)
   have hji15_ : (IntKind.i64.wrap (1 * 2 ^ min a0_1.toNat 64)) = ji15 := hji15
   have hji15z : a0_1 ≤ 64 → (IntKind.i64.wrap (1 * 2 ^ a0_1.toNat)) = ji15 := shl_small hji15
   have hji15u : (IntKind.i64.wrap (2 ^ min a0_1.toNat 64)) = ji15 := by have h_ := hji15_; rw [Int.one_mul] at h_; exact h_
   have hji15v : a0_1 ≤ 64 → (IntKind.i64.wrap (2 ^ a0_1.toNat)) = ji15 := fun hle_ => by have h_ := hji15z hle_; rw [Int.one_mul] at h_; exact h_
   have hji15y : (wrap64 (1 * 2 ^ min a0_1.toNat 64)) = ji15 := (i64_w _).symm.trans hji15_
   have hji15x : a0_1 ≤ 64 → (wrap64 (1 * 2 ^ a0_1.toNat)) = ji15 := fun h_ => (i64_w _).symm.trans (hji15z h_)
   obtain ⟨t405, A16, H⟩ := xO H
   (try dsimp only at H)
   by_cases c17 : a0_2 = 1
   rotate_left
   ·rw [if_neg c17] at H
    have c17b0 : (a0_2 == 1) = false := beq_eq_false_iff_ne.mpr c17
    have c17b1 : (a0_2 != 1) = true := bne_iff_ne.mpr c17
    replace H := Option.bind_eq_some_iff.mp H
    obtain ⟨⟨t408, t409⟩, A230, H⟩ := H
    (try dsimp only at H)
    have A23 := xA A230
    clear A230
    simp only [Option.some.injEq, Prod.mk.injEq] at H
    obtain ⟨rfl, rfl, rfl⟩ := H
    replace hz402 := blk_cell BK402.out; replace hy402 := blk_frozen BK402.out
    go_wp2_with (first | (refine xG (some 22) Try.func272 #[.int .i64 a0_0] ?_; (with_reducible refine (impl_size.calls a0_0 t405 _ A16.out).mono ?_); rintro e w25 ⟨rfl, hb⟩; refine ⟨_, rfl, ?_⟩; replace BK402 := xkb BK402 hb; replace HB := xA (below_step (xB1 GE402.out HB.out) hb); (try clear hb); replace hz402 := blk_cell BK402.out; replace hy402 := blk_frozen BK402.out) | ((with_reducible refine gate_callee (f := 296) rfl ?_); refine goesL_ (some 32) rfl rfl Try.func296 (by kernel_rfl) rfl #[.int .i64 ji15, .int .i64 (wrap64 ((ji15) - t405))] rfl (by (try simp only [List.map_toArray, List.map_cons, List.map_nil]); first | done | (simp only [hji15]; rfl) | rfl | (simp only [List.length_drop, List.length_take]; rfl)) ?_; (with_reducible refine (impl_lowest.calls kj1 ji15 (wrap64 ((ji15) - t405)) t408 t409 _ A23.out).mono ?_); rintro e w27 ⟨rfl, hb⟩; refine ⟨_, rfl, ?_⟩; replace BK402 := xkb BK402 hb; replace HB := xA (below_step (xB1 GE402.out HB.out) hb); (try clear hb)))
    go_ret3
    exact ⟨by first | rfl | (simp [errW_none, errW_some] <;> rfl) | (simp only [← hji15]; first | rfl | (simp [errW_none, errW_some] <;> rfl)) | (simp [*, errW_none, errW_some] <;> rfl), xB1 GE402.out HB.out⟩
   rw [if_pos c17] at H
   have c17b0 : (a0_2 == 1) = true := beq_iff_eq.mpr c17
   have c17b1 : (a0_2 != 1) = false := bne_eq_false_iff_eq.mpr c17
   clear c17
   replace H := Option.bind_eq_some_iff.mp H
   obtain ⟨⟨t406, t407⟩, A180, H⟩ := H
   (try dsimp only at H)
   have A18 := xA A180
   clear A180
   simp only [Option.some.injEq, Prod.mk.injEq] at H
   obtain ⟨rfl, rfl, rfl⟩ := H
   replace hz402 := blk_cell BK402.out; replace hy402 := blk_frozen BK402.out
   go_wp2_with (first | (refine xG (some 22) Try.func272 #[.int .i64 a0_0] ?_; (with_reducible refine (impl_size.calls a0_0 t405 _ A16.out).mono ?_); rintro e w20 ⟨rfl, hb⟩; refine ⟨_, rfl, ?_⟩; replace BK402 := xkb BK402 hb; replace HB := xA (below_step (xB1 GE402.out HB.out) hb); (try clear hb); replace hz402 := blk_cell BK402.out; replace hy402 := blk_frozen BK402.out) | ((with_reducible refine gate_callee (f := 296) rfl ?_); refine goesL_ (some 32) rfl rfl Try.func296 (by kernel_rfl) rfl #[.int .i64 ji15, .int .i64 (wrap64 ((wrap64 ((ji15) - t405)) * 2))] rfl (by (try simp only [List.map_toArray, List.map_cons, List.map_nil]); first | done | (simp only [hji15]; rfl) | rfl | (simp only [List.length_drop, List.length_take]; rfl)) ?_; (with_reducible refine (impl_lowest.calls kj1 ji15 (wrap64 ((wrap64 ((ji15) - t405)) * 2)) t406 t407 _ A18.out).mono ?_); rintro e w22 ⟨rfl, hb⟩; refine ⟨_, rfl, ?_⟩; replace BK402 := xkb BK402 hb; replace HB := xA (below_step (xB1 GE402.out HB.out) hb); (try clear hb)))
   go_ret3
   exact ⟨by first | rfl | (simp [errW_none, errW_some] <;> rfl) | (simp only [← hji15]; first | rfl | (simp [errW_none, errW_some] <;> rfl)) | (simp [*, errW_none, errW_some] <;> rfl), xB1 GE402.out HB.out⟩
/-! ### spec_l1Abs: function 298 -/
def spec_l1Abs.f (a0 : Int) : Option (Int) := (spec_l1Most.f a0 (wrap64 (-a0))).bind fun t410 => (some t410)
set_option maxHeartbeats 200000000 in
set_option maxRecDepth 100000 in
theorem spec_l1Abs.calls (a0 : Int) (r : Int) (w : World) (h : spec_l1Abs.f a0 = some r) :
  Calls Try.prog 298 #[.int .i64 a0] w fun e w' => e = .returned (.int .i64 r) ∧ Drawn0 w w' := by
 have H : ((spec_l1Most.f a0 (wrap64 (-a0))).bind fun t410 => (some t410)) = some r := h
 clear h
 obtain ⟨t410, A2, H⟩ := xO H
 (try dsimp only at H)
 obtain rfl := Option.some.inj H
 go_enter Try.func298, Try.ntmps298
 go_wp2_with (first | (refine xG (some 6) Try.func271 #[.int .i64 a0, .int .i64 (wrap64 (-a0))] ?_; (with_reducible refine (spec_l1Most.calls a0 (wrap64 (-a0)) t410 _ A2.out).mono ?_); rintro e w' ⟨rfl, ⟨nd, rfl⟩⟩; refine ⟨_, rfl, ?_⟩))
 go_ret
 exact ⟨by first | rfl | (simp; done) | (simp [*]; done), by repeat (first | exact Drawn0.refl _ | apply Drawn0.step)⟩

/-! ### spec_foRatio: function 299 -/
mutual
def spec_foRatio.j0 : Nat → Int → Int → Option (Int × Int)
 | 0, _, _ => none
 | k + 1, x0, x1 => (spec_l1Abs.f x0).bind fun t411 => (spec_foRatio.l0 k x0 x1 t411 x1)
def spec_foRatio.l0 : Nat → Int → Int → Int → Int → Option (Int × Int)
 | 0, _, _, _, _ => none
 | k + 1, x0, x1, x6, x7 => if x7 > 0 then (if x7 = 0 then (none) else (spec_foRatio.l0 k x0 x1 x7 (Int.tmod x6 x7))) else (if x6 = 0 then (none) else (some (wrap64 (Int.tdiv x0 x6), wrap64 (Int.tdiv x1 x6))))
end
def spec_foRatio.f (k : Nat) (a0 : Int) (a1 : Int) : Option (Int × Int) := if a1 < 0 then (spec_foRatio.j0 k (wrap64 (-a0)) (wrap64 (-a1))) else (spec_foRatio.j0 k a0 a1)
theorem spec_foRatio.mono_l : ∀ k, (∀ y0 y1, LeO (spec_foRatio.j0 k y0 y1) (spec_foRatio.j0 (k + 1) y0 y1)) ∧ (∀ y0 y1 y2 y3, LeO (spec_foRatio.l0 k y0 y1 y2 y3) (spec_foRatio.l0 (k + 1) y0 y1 y2 y3))
 | 0 => ⟨fun _ _ r h => by simp [spec_foRatio.j0] at h, fun _ _ _ _ r h => by simp [spec_foRatio.l0] at h⟩
 | k + 1 => by
  obtain ⟨ih0, ih1⟩ := spec_foRatio.mono_l k
  refine ⟨?_, ?_⟩ <;> intros
  ·unfold spec_foRatio.j0; exact xM
  ·unfold spec_foRatio.l0; exact xM
theorem spec_foRatio.mono : ∀ a0 a1 k, LeO (spec_foRatio.f k a0 a1) (spec_foRatio.f (k + 1) a0 a1) := by
 intro a0 a1 k
 obtain ⟨ih0, ih1⟩ := spec_foRatio.mono_l k
 unfold spec_foRatio.f
 exact xM
set_option maxHeartbeats 200000000 in
set_option maxRecDepth 100000 in
theorem spec_foRatio.calls (k : Nat) (a0 : Int) (a1 : Int) (r1 : Int) (r2 : Int) (w : World) (h : spec_foRatio.f k a0 a1 = some (r1, r2)) :
  Calls Try.prog 299 #[.int .i64 a0, .int .i64 a1] w fun e w' => e = .returned (.tuple #[.int .i64 r1, .int .i64 r2]) ∧ Drawn0 w w' := by
 have H : (if a1 < 0 then (spec_foRatio.j0 k (wrap64 (-a0)) (wrap64 (-a1))) else (spec_foRatio.j0 k a0 a1)) = some (r1, r2) := h
 clear h
 have HC3 := xA H
 clear H
 go_enter Try.func299, Try.ntmps299
 go_upto_if 9 with (fail)
 repeat (go_quiet (fail); go_upto_if 9 with (fail))
 go_cut [0, 1] from 8 to 9 (fun v0 v1 wc => ∃ (kq : Nat) (x0_2 : Int) (x1_2 : Int), v0 = .int .i64 x0_2 ∧ v1 = .int .i64 x1_2 ∧ Aside0 (spec_foRatio.j0 kq x0_2 x1_2 = some (r1, r2)) ∧ Aside0 (kq ≤ k) ∧ Drawn0 w wc)
 case first => as_aux_lemma =>
  have H := HC3.out
  clear HC3
  by_cases c4 : a1 < 0
  rotate_left
  ·rw [if_neg c4] at H
   have c4b0 : decide (a1 < 0) = false := decide_eq_false c4
   clear c4
   (first | rw [c4b0] | (simp only [i64_w, i32_w]; rw [c4b0]) | skip)
   have H' := xA H
   clear H
   go_wp2
   repeat (go_quiet (fail); try go_wp2)
   go_meet
   case rel => exact ⟨_, (a0), (a1), xs, xs, H', ⟨by first | omega | exact Nat.le_refl _⟩, by repeat (first | exact Drawn0.refl _ | apply Drawn0.step)⟩
  rw [if_pos c4] at H
  have c4b0 : decide (a1 < 0) = true := decide_eq_true c4
  clear c4
  (first | rw [c4b0] | (simp only [i64_w, i32_w]; rw [c4b0]) | skip)
  have H' := xA H
  clear H
  go_wp2
  repeat (go_quiet (fail); try go_wp2)
  go_meet
  case rel => exact ⟨_, (wrap64 (-a0)), (wrap64 (-a1)), xs, xs, H', ⟨by first | omega | exact Nat.le_refl _⟩, by repeat (first | exact Drawn0.refl _ | apply Drawn0.step)⟩
 case rest => as_aux_lemma =>
  clear HC3
  obtain ⟨kq, x0_2, x1_2, rfl, rfl, HA, HJ2, ⟨mc2, rfl⟩⟩ := hcut
  cases kq with
  | zero => exact absurd HA.out (by simp [spec_foRatio.j0])
  | succ kj2 =>
   have H := HA.out
   clear HA
   simp only [spec_foRatio.j0] at H
   obtain ⟨t411, A5, H⟩ := xO H
   (try dsimp only at H)
   have H' := xA H
   clear H
   go_wp2_with (first | (go_at_call 298; (with_reducible refine (spec_l1Abs.calls x0_2 t411 _ A5.out).mono ?_); rintro e w' ⟨rfl, ⟨nd, rfl⟩⟩; (try exact xD)))
   repeat (go_quiet (first | (go_at_call 298; (with_reducible refine (spec_l1Abs.calls x0_2 t411 _ A5.out).mono ?_); rintro e w' ⟨rfl, ⟨nd, rfl⟩⟩; (try exact xD))); try go_wp2_with (first | (go_at_call 298; (with_reducible refine (spec_l1Abs.calls x0_2 t411 _ A5.out).mono ?_); rintro e w' ⟨rfl, ⟨nd, rfl⟩⟩; (try exact xD))))
   go_loopg [6, 7] kj2 (fun kq v6 v7 w' => ∃ (x6_2 : Int) (x7_2 : Int), v6 = .int .i64 x6_2 ∧ v7 = .int .i64 x7_2 ∧ Aside0 (spec_foRatio.l0 kq x0_2 x1_2 x6_2 x7_2 = some (r1, r2)) ∧ Aside0 (kq ≤ kj2) ∧ Drawn0 w w')
   case atStart => exact ⟨(t411), (x1_2), xs, xs, H', ⟨Nat.le_refl _⟩, by repeat (first | exact Drawn0.refl _ | apply Drawn0.step)⟩
   case round =>
    clear H'
    obtain ⟨x6_2, x7_2, rfl, rfl, HA, HK2, ⟨m2, rfl⟩⟩ := hrel
    cases gk with
    | zero => exact absurd HA.out (by simp [spec_foRatio.l0])
    | succ k2 =>
     have H := HA.out
     clear HA
     simp only [spec_foRatio.l0] at H
     by_cases c6 : x7_2 > 0
     rotate_left
     ·rw [if_neg c6] at H
      have c6b0 : decide (0 < x7_2) = false := decide_eq_false c6
      clear c6
      by_cases c8 : x6_2 = 0
      ·rw [if_pos c8] at H
       exact absurd H (by simp)
      rw [if_neg c8] at H
      have c8b0 : (x6_2 == 0) = false := beq_eq_false_iff_ne.mpr c8
      have c8b1 : (x6_2 != 0) = true := bne_iff_ne.mpr c8
      simp only [Option.some.injEq, Prod.mk.injEq] at H
      obtain ⟨rfl, rfl⟩ := H
      go_wp2
      repeat (go_quiet (fail); try go_wp2)
      go_ret2
      exact ⟨by first | rfl | (simp; done) | (simp [*]; done), by repeat (first | exact Drawn0.refl _ | apply Drawn0.step)⟩

     rw [if_pos c6] at H
     have c6b0 : decide (0 < x7_2) = true := decide_eq_true c6
     clear c6
     by_cases c7 : x7_2 = 0
     ·rw [if_pos c7] at H
      exact absurd H (by simp)
     rw [if_neg c7] at H
     have c7b0 : (x7_2 == 0) = false := beq_eq_false_iff_ne.mpr c7
     have c7b1 : (x7_2 != 0) = true := bne_iff_ne.mpr c7
     have H' := xA H
     clear H
     go_wp2
     repeat (go_quiet (fail); try go_wp2)
     go_roundg k2
     case measure => have := HJ2.out; have := HK2.out; omega
     case rel => exact ⟨(x7_2), (Int.tmod x6_2 x7_2), xs, xs, H', ⟨by have := HJ2.out; have := HK2.out; omega⟩, by repeat (first | exact Drawn0.refl _ | apply Drawn0.step)⟩
end Go.Proofs.Ytjplcongellcmaa.PFnFirstRuns
