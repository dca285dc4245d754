/- What each Go function that the statement FnFirstCycles reaches answers, proved call by call. No condition beyond those that the theorems print. (Written by wip/tools/xprint.py of this repo, over the kit's print.) -/
import Derived.Test.YtjplcongellcmaaPFnFirstCyclesx0
import Derived.Test.YtjplcongellcmaaPFnFirstCyclesx4
import Derived.Test.YtjplcongellcmaaPFnFirstCyclesx11
namespace Go.Proofs.Ytjplcongellcmaa.PFnFirstCycles
open Go.RowKit Go.Proofs.YtjplcongellcmaaW.PrintWords Go.Proofs.YtjplcongellcmaaW.PrintLast Go.Proofs.YtjplcongellcmaaW.PrintMore
attribute [local go_sem] max2_int min2_int max_two min_two max_three min_three max_four min_four   -- for this text's walks alone
set_option linter.unusedVariables false
set_option linter.unusedSimpArgs false
def x12a0 : Array Bool := #[Zz,Zz,Zz,Zz,Zz,Zz,Zz,Zz,Zz,Zz,Zz]
def x12a1 : Array Bool := #[Yy,Zz,Zz,Zz,Zz,Zz,Zz,Zz,Zz,Zz,Zz]
def x12a2 : Array Bool := #[Yy,Yy,Zz,Zz,Zz,Zz,Zz,Zz,Zz,Zz,Zz]
def x12a3 : Array Bool := #[Yy,Yy,Yy,Zz,Zz,Zz,Zz,Zz,Zz,Zz,Zz]
def x12a4 : Array Bool := #[Yy,Yy,Yy,Yy,Zz,Zz,Zz,Zz,Zz,Zz,Zz]
def x12a5 : Array Bool := #[Yy,Yy,Yy,Yy,Yy,Zz,Zz,Zz,Zz,Zz,Zz]
def x12a6 : Array Bool := #[Yy,Yy,Yy,Yy,Yy,Yy,Zz,Zz,Zz,Zz,Zz]
def x12a7 : Array Bool := #[Yy,Yy,Yy,Yy,Yy,Yy,Yy,Zz,Zz,Zz,Zz]
def x12a8 : Array Bool := #[Yy,Yy,Yy,Yy,Yy,Yy,Yy,Yy,Zz,Zz,Zz]
def x12a9 : Array Bool := #[Yy,Yy,Yy,Yy,Yy,Yy,Yy,Yy,Yy,Zz,Zz]
def x12a10 : Array Bool := #[Yy,Yy,Yy,Yy,Yy,Yy,Yy,Yy,Yy,Yy,Zz]
def x12a11 : Array Bool := #[Yy,Yy,Yy,Yy,Yy,Yy,Yy,Yy,Yy,Yy,Yy]
def x12a12 : Array Bool := #[Yy,Yy,Yy,Yy,Yy,Zz,Yy,Zz,Zz,Zz,Zz]
def x12a13 : Array Bool := #[Zz,Zz,Zz,Zz,Zz,Zz,Zz,Zz,Zz,Zz,Zz,Zz,Zz,Zz,Zz]
def x12a14 : Array Bool := #[Yy,Zz,Zz,Zz,Zz,Zz,Zz,Zz,Zz,Zz,Zz,Zz,Zz,Zz,Zz]
def x12a15 : Array Bool := #[Yy,Zz,Zz,Yy,Zz,Zz,Zz,Zz,Zz,Zz,Zz,Zz,Zz,Zz,Zz]
def x12a16 : Array Bool := #[Yy,Zz,Zz,Yy,Zz,Zz,Yy,Zz,Zz,Zz,Zz,Zz,Zz,Zz,Zz]
def x12a17 : Array Bool := #[Yy,Yy,Zz,Yy,Zz,Zz,Yy,Zz,Zz,Zz,Zz,Zz,Zz,Zz,Zz]
def x12a18 : Array Bool := #[Yy,Yy,Yy,Yy,Zz,Zz,Yy,Zz,Zz,Zz,Zz,Zz,Zz,Zz,Zz]
def x12a19 : Array Bool := #[Yy,Yy,Yy,Yy,Yy,Zz,Yy,Zz,Zz,Zz,Zz,Zz,Zz,Zz,Zz]
def x12a20 : Array Bool := #[Yy,Yy,Yy,Yy,Yy,Yy,Yy,Zz,Zz,Zz,Zz,Zz,Zz,Zz,Zz]
def x12a21 : Array Bool := #[Yy,Yy,Yy,Yy,Yy,Yy,Yy,Yy,Zz,Zz,Zz,Zz,Zz,Zz,Zz]
def x12a22 : Array Bool := #[Yy,Yy,Yy,Yy,Yy,Yy,Yy,Yy,Yy,Zz,Zz,Zz,Zz,Zz,Zz]
def x12a23 : Array Bool := #[Yy,Yy,Yy,Yy,Yy,Yy,Yy,Yy,Yy,Yy,Zz,Zz,Zz,Zz,Zz]
def x12a24 : Array Bool := #[Yy,Yy,Yy,Yy,Yy,Yy,Yy,Yy,Yy,Yy,Yy,Zz,Zz,Zz,Zz]
def x12a25 : Array Bool := #[Yy,Yy,Yy,Yy,Yy,Yy,Yy,Yy,Yy,Yy,Yy,Yy,Zz,Zz,Zz]
def x12a26 : Array Bool := #[Yy,Yy,Yy,Yy,Yy,Yy,Yy,Yy,Yy,Yy,Yy,Yy,Yy,Zz,Zz]
def x12a27 : Array Bool := #[Yy,Yy,Yy,Yy,Yy,Yy,Yy,Yy,Yy,Yy,Yy,Yy,Yy,Yy,Zz]
def x12a28 : Array Bool := #[Yy,Yy,Yy,Yy,Yy,Yy,Yy,Yy,Yy,Yy,Yy,Yy,Yy,Yy,Yy]

/-! ### spec_foRatio: function 299 -/
mutual
def spec_foRatio.j0 : Nat → Int → Int → Option (Int × Int)
 | 0, _, _ => none
 | k + 1, x0, x1 => (spec_l1Abs.f x0).bind fun t523 => (spec_foRatio.l0 k x0 x1 t523 x1)
def spec_foRatio.l0 : Nat → Int → Int → Int → Int → Option (Int × Int)
 | 0, _, _, _, _ => none
 | k + 1, x0, x1, x6, x7 => if x7 > 0 then (if x7 = 0 then (none) else (spec_foRatio.l0 k x0 x1 x7 (Int.tmod x6 x7))) else (if x6 = 0 then (none) else (some (wrap64 (Int.tdiv x0 x6), wrap64 (Int.tdiv x1 x6))))
end
def spec_foRatio.f (k : Nat) (a0 : Int) (a1 : Int) : Option (Int × Int) := if a1 < 0 then (spec_foRatio.j0 k (wrap64 (-a0)) (wrap64 (-a1))) else (spec_foRatio.j0 k a0 a1)
theorem spec_foRatio.mono_l : ∀ k, (∀ y0 y1, LeO (spec_foRatio.j0 k y0 y1) (spec_foRatio.j0 (k + 1) y0 y1)) ∧ (∀ y0 y1 y2 y3, LeO (spec_foRatio.l0 k y0 y1 y2 y3) (spec_foRatio.l0 (k + 1) y0 y1 y2 y3))
 | 0 => ⟨fun _ _ r h => by simp [spec_foRatio.j0] at h, fun _ _ _ _ r h => by simp [spec_foRatio.l0] at h⟩
 | k + 1 => by
  obtain ⟨ih0, ih1⟩ := spec_foRatio.mono_l k
  refine ⟨?_, ?_⟩ <;> intros
  ·unfold spec_foRatio.j0; exact xM
  ·unfold spec_foRatio.l0; exact xM
theorem spec_foRatio.mono : ∀ a0 a1 k, LeO (spec_foRatio.f k a0 a1) (spec_foRatio.f (k + 1) a0 a1) := by
 intro a0 a1 k
 obtain ⟨ih0, ih1⟩ := spec_foRatio.mono_l k
 unfold spec_foRatio.f
 exact xM
set_option maxHeartbeats 200000000 in
set_option maxRecDepth 100000 in
theorem spec_foRatio.calls (k : Nat) (a0 : Int) (a1 : Int) (r1 : Int) (r2 : Int) (w : World) (h : spec_foRatio.f k a0 a1 = some (r1, r2)) :
  Calls Try.prog 299 #[.int .i64 a0, .int .i64 a1] w fun e w' => e = .returned (.tuple #[.int .i64 r1, .int .i64 r2]) ∧ Drawn0 w w' := by
 have H : (if a1 < 0 then (spec_foRatio.j0 k (wrap64 (-a0)) (wrap64 (-a1))) else (spec_foRatio.j0 k a0 a1)) = some (r1, r2) := h
 clear h
 have HC3 := xA H
 clear H
 go_enter Try.func299, Try.ntmps299
 go_upto_if 9 with (fail)
 repeat (go_quiet (fail); go_upto_if 9 with (fail))
 go_cut [0, 1] from 8 to 9 (fun v0 v1 wc => ∃ (kq : Nat) (x0_2 : Int) (x1_2 : Int), v0 = .int .i64 x0_2 ∧ v1 = .int .i64 x1_2 ∧ Aside0 (spec_foRatio.j0 kq x0_2 x1_2 = some (r1, r2)) ∧ Aside0 (kq ≤ k) ∧ Drawn0 w wc)
 case first => as_aux_lemma =>
  have H := HC3.out
  clear HC3
  by_cases c4 : a1 < 0
  rotate_left
  ·rw [if_neg c4] at H
   have c4b0 : decide (a1 < 0) = false := decide_eq_false c4
   clear c4
   (first | rw [c4b0] | (simp only [i64_w, i32_w]; rw [c4b0]) | skip)
   have H' := xA H
   clear H
   go_wp2
   repeat (go_quiet (fail); try go_wp2)
   go_meet
   case rel => exact ⟨_, (a0), (a1), xs, xs, H', ⟨by first | omega | exact Nat.le_refl _⟩, by repeat (first | exact Drawn0.refl _ | apply Drawn0.step)⟩
  rw [if_pos c4] at H
  have c4b0 : decide (a1 < 0) = true := decide_eq_true c4
  clear c4
  (first | rw [c4b0] | (simp only [i64_w, i32_w]; rw [c4b0]) | skip)
  have H' := xA H
  clear H
  go_wp2
  repeat (go_quiet (fail); try go_wp2)
  go_meet
  case rel => exact ⟨_, (wrap64 (-a0)), (wrap64 (-a1)), xs, xs, H', ⟨by first | omega | exact Nat.le_refl _⟩, by repeat (first | exact Drawn0.refl _ | apply Drawn0.step)⟩
 case rest => as_aux_lemma =>
  clear HC3
  obtain ⟨kq, x0_2, x1_2, rfl, rfl, HA, HJ2, ⟨mc2, rfl⟩⟩ := hcut
  cases kq with
  | zero => exact absurd HA.out (by simp [spec_foRatio.j0])
  | succ kj2 =>
   have H := HA.out
   clear HA
   simp only [spec_foRatio.j0] at H
   obtain ⟨t523, A5, H⟩ := xO H
   (try dsimp only at H)
   have H' := xA H
   clear H
   go_wp2_with (first | (go_at_call 298; (with_reducible refine (spec_l1Abs.calls x0_2 t523 _ A5.out).mono ?_); rintro e w' ⟨rfl, ⟨nd, rfl⟩⟩; (try exact xD)))
   repeat (go_quiet (first | (go_at_call 298; (with_reducible refine (spec_l1Abs.calls x0_2 t523 _ A5.out).mono ?_); rintro e w' ⟨rfl, ⟨nd, rfl⟩⟩; (try exact xD))); try go_wp2_with (first | (go_at_call 298; (with_reducible refine (spec_l1Abs.calls x0_2 t523 _ A5.out).mono ?_); rintro e w' ⟨rfl, ⟨nd, rfl⟩⟩; (try exact xD))))
   go_loopg [6, 7] kj2 (fun kq v6 v7 w' => ∃ (x6_2 : Int) (x7_2 : Int), v6 = .int .i64 x6_2 ∧ v7 = .int .i64 x7_2 ∧ Aside0 (spec_foRatio.l0 kq x0_2 x1_2 x6_2 x7_2 = some (r1, r2)) ∧ Aside0 (kq ≤ kj2) ∧ Drawn0 w w')
   case atStart => exact ⟨(t523), (x1_2), xs, xs, H', ⟨Nat.le_refl _⟩, by repeat (first | exact Drawn0.refl _ | apply Drawn0.step)⟩
   case round =>
    clear H'
    obtain ⟨x6_2, x7_2, rfl, rfl, HA, HK2, ⟨m2, rfl⟩⟩ := hrel
    cases gk with
    | zero => exact absurd HA.out (by simp [spec_foRatio.l0])
    | succ k2 =>
     have H := HA.out
     clear HA
     simp only [spec_foRatio.l0] at H
     by_cases c6 : x7_2 > 0
     rotate_left
     ·rw [if_neg c6] at H
      have c6b0 : decide (0 < x7_2) = false := decide_eq_false c6
      clear c6
      by_cases c8 : x6_2 = 0
      ·rw [if_pos c8] at H
       exact absurd H (by simp)
      rw [if_neg c8] at H
      have c8b0 : (x6_2 == 0) = false := beq_eq_false_iff_ne.mpr c8
      have c8b1 : (x6_2 != 0) = true := bne_iff_ne.mpr c8
      simp only [Option.some.injEq, Prod.mk.injEq] at H
      obtain ⟨rfl, rfl⟩ := H
      go_wp2
      repeat (go_quiet (fail); try go_wp2)
      go_ret2
      exact ⟨by first | rfl | (simp; done) | (simp [*]; done), by repeat (first | exact Drawn0.refl _ | apply Drawn0.step)⟩

     rw [if_pos c6] at H
     have c6b0 : decide (0 < x7_2) = true := decide_eq_true c6
     clear c6
     by_cases c7 : x7_2 = 0
     ·rw [if_pos c7] at H
      exact absurd H (by simp)
     rw [if_neg c7] at H
     have c7b0 : (x7_2 == 0) = false := beq_eq_false_iff_ne.mpr c7
     have c7b1 : (x7_2 != 0) = true := bne_iff_ne.mpr c7
     have H' := xA H
     clear H
     go_wp2
     repeat (go_quiet (fail); try go_wp2)
     go_roundg k2
     case measure => have := HJ2.out; have := HK2.out; omega
     case rel => exact ⟨(x7_2), (Int.tmod x6_2 x7_2), xs, xs, H', ⟨by have := HJ2.out; have := HK2.out; omega⟩, by repeat (first | exact Drawn0.refl _ | apply Drawn0.step)⟩
/-! ### spec_GainOfFirst: function 119 -/
def spec_GainOfFirst.f (k : Nat) (a0_0 : Int) (a0_1 : Int) (a0_2 : Int) (a0_3 : Int) (a0_4 : Bool) : Option (Int × Int × Bool) := (spec_foGood.f a0_0 a0_1 a0_2 a0_3 a0_4).bind fun t525 => (if t525 = true then (if 0 ≤ a0_1 then (if a0_0 = (shl .i64 1 a0_1) then (some (0, 0, false)) else ((spec_foRatio.f k (shl .i64 1 a0_1) (wrap64 ((shl .i64 1 a0_1) - a0_0))).bind fun bt526 => (some (bt526.1, bt526.2, true)))) else (none)) else (some (0, 0, false)))
theorem spec_GainOfFirst.mono : ∀ a0 a1 a2 a3 a4 k, LeO (spec_GainOfFirst.f k a0 a1 a2 a3 a4) (spec_GainOfFirst.f (k + 1) a0 a1 a2 a3 a4) := by
 intro a0 a1 a2 a3 a4 k
 have m0 := @spec_foRatio.mono
 unfold spec_GainOfFirst.f
 exact xM
def spec_GainOfFirst.T1 : Bool × List (List Nat × List Nat) := (true, [([], []), ([0], [0]), ([1], [1]), ([2, 1], [2]), ([3], [3]), ([4, 3], [3, 4]), ([3], [3]), ([6, 3], [3, 6]), ([7, 3], [3, 7]), ([5, 8, 3], [3, 5, 8]), ([3, 9], [3, 9])])
def spec_GainOfFirst.B1 : List Nat := [0, 1, 3, 7, 15, 31, 15, 79, 207, 511, 1023]
theorem spec_GainOfFirst.tab1 : rtab .any (opsOf Try.f119 1) = spec_GainOfFirst.T1 := by kernel_rfl
theorem spec_GainOfFirst.bits1 : waitsOk spec_GainOfFirst.T1.2 spec_GainOfFirst.B1 = true := by kernel_rfl
def spec_GainOfFirst.T3 : Bool × List (List Nat × List Nat) := (true, [([], []), ([0], [0]), ([1], [1]), ([], []), ([3], [3]), ([4], [4]), ([], []), ([6], [6]), ([5, 7], [5, 7]), ([2, 8], [2, 8]), ([9], [9]), ([10], [10]), ([10], [10]), ([11, 9, 0, 1, 2, 3, 4, 5, 6, 7, 8, 9, 10, 11], [11]), ([12, 13, 0, 1, 2, 3, 4, 5, 6, 7, 8, 9, 10, 11, 12, 13], [12])])
def spec_GainOfFirst.B3 : List Nat := [0, 1, 3, 0, 8, 24, 0, 64, 248, 511, 1023, 2047, 2047, 4095, 16383]
theorem spec_GainOfFirst.tab3 : rtab .any (opsOf Try.f119 3) = spec_GainOfFirst.T3 := by kernel_rfl
theorem spec_GainOfFirst.bits3 : waitsOk spec_GainOfFirst.T3.2 spec_GainOfFirst.B3 = true := by kernel_rfl
set_option maxHeartbeats 200000000 in
set_option maxRecDepth 100000 in
theorem spec_GainOfFirst.calls (k : Nat) (a0_0 : Int) (a0_1 : Int) (a0_2 : Int) (a0_3 : Int) (a0_4 : Bool) (r1 : Int) (r2 : Int) (r3 : Bool) (w : World) (h : spec_GainOfFirst.f k a0_0 a0_1 a0_2 a0_3 a0_4 = some (r1, r2, r3)) :
  Calls Try.prog 119 #[.agg #[.int .i64 a0_0, .int .i64 a0_1, .int .i64 a0_2, .int .i64 a0_3, .bool a0_4]] w fun e w' => e = .returned (.tuple #[.int .i64 r1, .int .i64 r2, .bool r3]) ∧ Below w.heap.size w w' := by
 have hu62 := Try.underlying62
 have HB := xA (Below.refl w.heap.size w)
 have H : ((spec_foGood.f a0_0 a0_1 a0_2 a0_3 a0_4).bind fun t525 => (if t525 = true then (if 0 ≤ a0_1 then (if a0_0 = (shl .i64 1 a0_1) then (some (0, 0, false)) else ((spec_foRatio.f k (shl .i64 1 a0_1) (wrap64 ((shl .i64 1 a0_1) - a0_0))).bind fun bt526 => (some (bt526.1, bt526.2, true)))) else (none)) else (some (0, 0, false)))) = some (r1, r2, r3) := h
 clear h
 obtain ⟨t525, A2, H⟩ := xO H
 (try dsimp only at H)
 by_cases c3 : t525 = true
 rotate_left
 ·replace c3 := Bool.eq_false_iff.mpr c3
  subst c3
  rw [if_neg (show ¬ (false = true) by decide)] at H
  simp only [Option.some.injEq, Prod.mk.injEq] at H
  obtain ⟨rfl, rfl, rfl⟩ := H
  go_enter Try.func119, Try.ntmps119
  try go_wp2_with (first | (refine xg 1 rfl ?_; refine xV 1 #[.int .i64 a0_0, .int .i64 a0_1, .int .i64 a0_2, .int .i64 a0_3, .bool a0_4] 62 ?_; intro gb524 hg w17 hbox hb; have BK524 := xA (hbox); have GW524 := xgw hg (below_size (xB HB.out)); have GE524 := GW524; replace HB := xA (below_step (xB HB.out) hb); clear hb hbox hg))
  replace BK524 := xA (blk_drew BK524.out)
  replace HB := xA (below_drew1 HB.out)
  refine start_ (n := 11) (S := fun w' => w'.cell? ⟨gb524, 0, none⟩ = some (.int .i64 a0_0) ∧ w'.cell? ⟨gb524, 1, none⟩ = some (.int .i64 a0_1) ∧ w'.cell? ⟨gb524, 2, none⟩ = some (.int .i64 a0_2) ∧ w'.cell? ⟨gb524, 3, none⟩ = some (.int .i64 a0_3) ∧ w'.cell? ⟨gb524, 4, none⟩ = some (.bool a0_4)) (ds := []) x12a0 (by kernel_rfl) rfl rfl ⟨(blk_cell BK524.out 0).trans rfl, (blk_cell BK524.out 1).trans rfl, (blk_cell BK524.out 2).trans rfl, (blk_cell BK524.out 3).trans rfl, (blk_cell BK524.out 4).trans rfl⟩ (fun hHeld => ?_); refine with_tabW spec_GainOfFirst.tab1 spec_GainOfFirst.bits1 (fun HT_ HW_ => ?_)
  generalize w17.drew = w18 at BK524 HB hHeld ⊢
  refine xT5 hHeld 0 7 x12a1 ?_
  refine xU 1 8 x12a2 (fun K hK => ?_)
  refine xY Try.func297 #[.agg #[.int .i64 a0_0, .int .i64 a0_1, .int .i64 a0_2, .int .i64 a0_3, .bool a0_4]] ?_
  with_reducible refine (spec_foGood.calls a0_0 a0_1 a0_2 a0_3 a0_4 false _ A2.out).mono ?_
  rintro e w19 ⟨rfl, hb⟩
  refine ⟨_, rfl, ?_⟩
  replace BK524 := xkb BK524 hb
  replace HB := xA (below_step (xB1 GE524.out HB.out) hb)
  (try clear hb); (try clear hb2); (try clear hk); (try clear hi)
  refine hK.out _ _ ⟨(blk_cell BK524.out 0).trans rfl, (blk_cell BK524.out 1).trans rfl, (blk_cell BK524.out 2).trans rfl, (blk_cell BK524.out 3).trans rfl, (blk_cell BK524.out 4).trans rfl⟩ (fun hHeld => ?_)
  clear hK K
  refine xN ?_
  refine xP 2 9 x12a3 ?_
  refine xP 3 10 x12a4 ?_
  refine pure_ (i := 4) (N := some 11) (v := undef) (a' := ?_) x12a5 rfl rfl (any_of HT_.out (by kernel_rfl)) (fun _ _ _ h => h) (Or.inr ⟨by rfl, rfl⟩) ?_ ?_
  rotate_left
  ·exact xE
  refine pure_ (i := 5) (N := some 12) (v := undef) (a' := ?_) x12a6 rfl rfl (any_of HT_.out (by kernel_rfl)) (fun _ _ _ h => h) (Or.inr ⟨by rfl, rfl⟩) ?_ ?_
  rotate_left
  ·exact xE
  refine pure_ (i := 6) (N := some 13) (v := undef) (a' := ?_) x12a7 rfl rfl (any_of HT_.out (by kernel_rfl)) (fun _ _ _ h => h) (Or.inr ⟨by rfl, rfl⟩) ?_ ?_
  rotate_left
  ·exact xE
  refine pure_ (i := 7) (N := some 14) (v := undef) (a' := ?_) x12a8 rfl rfl (any_of HT_.out (by kernel_rfl)) (fun _ _ _ h => h) (Or.inr ⟨by rfl, rfl⟩) ?_ ?_
  rotate_left
  ·exact xE
  refine pure_ (i := 8) (N := some 15) (v := undef) (a' := ?_) x12a9 rfl rfl (any_of HT_.out (by kernel_rfl)) (fun _ _ _ h => h) (Or.inr ⟨by rfl, rfl⟩) ?_ ?_
  rotate_left
  ·exact xE
  refine pure_ (i := 9) (N := some 16) (v := undef) (a' := ?_) x12a10 rfl rfl (any_of HT_.out (by kernel_rfl)) (fun _ _ _ h => h) (Or.inr ⟨by rfl, rfl⟩) ?_ ?_
  rotate_left
  ·exact xE
  refine xP 10 17 x12a11 ?_
  refine xDn ?_
  try go_wp2
  go_ret3
  exact ⟨xr, xB1 GE524.out HB.out⟩

 subst c3
 rw [if_pos rfl] at H
 by_cases c4 : 0 ≤ a0_1
 rotate_left
 ·rw [if_neg c4] at H
  exact absurd H (by simp)
 rw [if_pos c4] at H
 have c4b0 := eq_true c4
 have c4b1 : decide (0 ≤ a0_1) = true := decide_eq_true c4
 clear c4
 obtain ⟨ji5, hji5⟩ : ∃ j_ : Int, (shl .i64 1 a0_1) = j_ := ⟨_, rfl⟩
 (first | rw [hji5] at H | simp only [hji5] at H)
 (try rw [hji5] at A2)
 have hji5_ : (IntKind.i64.wrap (1 * 2 ^ min a0_1.toNat 64)) = ji5 := hji5
 have hji5z : a0_1 ≤ 64 → (IntKind.i64.wrap (1 * 2 ^ a0_1.toNat)) = ji5 := shl_small hji5
 have hji5u : (IntKind.i64.wrap (2 ^ min a0_1.toNat 64)) = ji5 := by have h_ := hji5_; rw [Int.one_mul] at h_; exact h_
 have hji5v : a0_1 ≤ 64 → (IntKind.i64.wrap (2 ^ a0_1.toNat)) = ji5 := fun hle_ => by have h_ := hji5z hle_; rw [Int.one_mul] at h_; exact h_
 have hji5y : (wrap64 (1 * 2 ^ min a0_1.toNat 64)) = ji5 := (i64_w _).symm.trans hji5_
 have hji5x : a0_1 ≤ 64 → (wrap64 (1 * 2 ^ a0_1.toNat)) = ji5 := fun h_ => (i64_w _).symm.trans (hji5z h_)
 by_cases c6 : a0_0 = (ji5)
 ·rw [if_pos c6] at H
  have c6b0 : (a0_0 == (ji5)) = true := beq_iff_eq.mpr c6
  have c6b1 : (a0_0 != (ji5)) = false := bne_eq_false_iff_eq.mpr c6
  clear c6
  simp only [Option.some.injEq, Prod.mk.injEq] at H
  obtain ⟨rfl, rfl, rfl⟩ := H
  go_enter Try.func119, Try.ntmps119
  try go_wp2_with (first | (refine xg 1 rfl ?_; refine xV 1 #[.int .i64 a0_0, .int .i64 a0_1, .int .i64 a0_2, .int .i64 a0_3, .bool a0_4] 62 ?_; intro gb524 hg w7 hbox hb; have BK524 := xA (hbox); have GW524 := xgw hg (below_size (xB HB.out)); have GE524 := GW524; replace HB := xA (below_step (xB HB.out) hb); clear hb hbox hg))
  replace BK524 := xA (blk_drew BK524.out)
  replace HB := xA (below_drew1 HB.out)
  refine start_ (n := 11) (S := fun w' => w'.cell? ⟨gb524, 0, none⟩ = some (.int .i64 a0_0) ∧ w'.cell? ⟨gb524, 1, none⟩ = some (.int .i64 a0_1) ∧ w'.cell? ⟨gb524, 2, none⟩ = some (.int .i64 a0_2) ∧ w'.cell? ⟨gb524, 3, none⟩ = some (.int .i64 a0_3) ∧ w'.cell? ⟨gb524, 4, none⟩ = some (.bool a0_4)) (ds := []) x12a0 (by kernel_rfl) rfl rfl ⟨(blk_cell BK524.out 0).trans rfl, (blk_cell BK524.out 1).trans rfl, (blk_cell BK524.out 2).trans rfl, (blk_cell BK524.out 3).trans rfl, (blk_cell BK524.out 4).trans rfl⟩ (fun hHeld => ?_); refine with_tabW spec_GainOfFirst.tab1 spec_GainOfFirst.bits1 (fun HT_ HW_ => ?_)
  generalize w7.drew = w8 at BK524 HB hHeld ⊢
  refine xT5 hHeld 0 7 x12a1 ?_
  refine xU 1 8 x12a2 (fun K hK => ?_)
  refine xY Try.func297 #[.agg #[.int .i64 a0_0, .int .i64 a0_1, .int .i64 a0_2, .int .i64 a0_3, .bool a0_4]] ?_
  with_reducible refine (spec_foGood.calls a0_0 a0_1 a0_2 a0_3 a0_4 true _ A2.out).mono ?_
  rintro e w9 ⟨rfl, hb⟩
  refine ⟨_, rfl, ?_⟩
  replace BK524 := xkb BK524 hb
  replace HB := xA (below_step (xB1 GE524.out HB.out) hb)
  (try clear hb); (try clear hb2); (try clear hk); (try clear hi)
  refine hK.out _ _ ⟨(blk_cell BK524.out 0).trans rfl, (blk_cell BK524.out 1).trans rfl, (blk_cell BK524.out 2).trans rfl, (blk_cell BK524.out 3).trans rfl, (blk_cell BK524.out 4).trans rfl⟩ (fun hHeld => ?_)
  clear hK K
  refine xN ?_
  refine xP 2 9 x12a3 ?_
  refine xP 3 10 x12a4 ?_
  refine xP 4 11 x12a5 ?_
  refine xP 6 13 x12a12 ?_
  refine xT5 hHeld 5 12 x12a7 ?_
  refine xT5 hHeld 7 14 x12a8 ?_
  refine xP 8 15 x12a9 ?_
  refine xP 9 16 x12a10 ?_
  refine xP 10 17 x12a11 ?_
  refine xDn ?_
  try go_wp2
  go_ret3
  exact ⟨by first | rfl | (simp [errW_none, errW_some] <;> rfl) | (simp only [← hji5]; first | rfl | (simp [errW_none, errW_some] <;> rfl)) | (simp [*, errW_none, errW_some] <;> rfl), xB1 GE524.out HB.out⟩
 rw [if_neg c6] at H
 have c6b0 : (a0_0 == (ji5)) = false := beq_eq_false_iff_ne.mpr c6
 have c6b1 : (a0_0 != (ji5)) = true := bne_iff_ne.mpr c6
 have c10b0 := eq_true (of_decide_eq_true (by first | (with_reducible assumption) | assumption) : 0 ≤ a0_1)
 have c11b0 := eq_true (of_decide_eq_true (by first | (with_reducible assumption) | assumption) : 0 ≤ a0_1)
 replace H := Option.bind_eq_some_iff.mp H
 obtain ⟨⟨t526, t527⟩, A120, H⟩ := H
 (try dsimp only at H)
 have A12 := xA A120
 clear A120
 simp only [Option.some.injEq, Prod.mk.injEq] at H
 obtain ⟨rfl, rfl, rfl⟩ := H
 go_enter Try.func119, Try.ntmps119
 try go_wp2_with (first | (refine xg 1 rfl ?_; refine xV 1 #[.int .i64 a0_0, .int .i64 a0_1, .int .i64 a0_2, .int .i64 a0_3, .bool a0_4] 62 ?_; intro gb524 hg w13 hbox hb; have BK524 := xA (hbox); have GW524 := xgw hg (below_size (xB HB.out)); have GE524 := GW524; replace HB := xA (below_step (xB HB.out) hb); clear hb hbox hg))
 replace BK524 := xA (blk_drew BK524.out)
 replace HB := xA (below_drew1 HB.out)
 refine start_ (n := 11) (S := fun w' => w'.cell? ⟨gb524, 0, none⟩ = some (.int .i64 a0_0) ∧ w'.cell? ⟨gb524, 1, none⟩ = some (.int .i64 a0_1) ∧ w'.cell? ⟨gb524, 2, none⟩ = some (.int .i64 a0_2) ∧ w'.cell? ⟨gb524, 3, none⟩ = some (.int .i64 a0_3) ∧ w'.cell? ⟨gb524, 4, none⟩ = some (.bool a0_4)) (ds := []) x12a0 (by kernel_rfl) rfl rfl ⟨(blk_cell BK524.out 0).trans rfl, (blk_cell BK524.out 1).trans rfl, (blk_cell BK524.out 2).trans rfl, (blk_cell BK524.out 3).trans rfl, (blk_cell BK524.out 4).trans rfl⟩ (fun hHeld => ?_); refine with_tabW spec_GainOfFirst.tab1 spec_GainOfFirst.bits1 (fun HT_ HW_ => ?_)
 generalize w13.drew = w14 at BK524 HB hHeld ⊢
 refine xT5 hHeld 0 7 x12a1 ?_
 refine xU 1 8 x12a2 (fun K hK => ?_)
 refine xY Try.func297 #[.agg #[.int .i64 a0_0, .int .i64 a0_1, .int .i64 a0_2, .int .i64 a0_3, .bool a0_4]] ?_
 with_reducible refine (spec_foGood.calls a0_0 a0_1 a0_2 a0_3 a0_4 true _ A2.out).mono ?_
 rintro e w15 ⟨rfl, hb⟩
 refine ⟨_, rfl, ?_⟩
 replace BK524 := xkb BK524 hb
 replace HB := xA (below_step (xB1 GE524.out HB.out) hb)
 (try clear hb); (try clear hb2); (try clear hk); (try clear hi)
 refine hK.out _ _ ⟨(blk_cell BK524.out 0).trans rfl, (blk_cell BK524.out 1).trans rfl, (blk_cell BK524.out 2).trans rfl, (blk_cell BK524.out 3).trans rfl, (blk_cell BK524.out 4).trans rfl⟩ (fun hHeld => ?_)
 clear hK K
 refine xN ?_
 refine xP 2 9 x12a3 ?_
 refine xP 3 10 x12a4 ?_
 refine xP 4 11 x12a5 ?_
 refine xP 6 13 x12a12 ?_
 refine xT5 hHeld 5 12 x12a7 ?_
 refine xT5 hHeld 7 14 x12a8 ?_
 refine xP 8 15 x12a9 ?_
 refine xP 9 16 x12a10 ?_
 refine xP 10 17 x12a11 ?_
 refine xDn ?_
 try go_wp2
 replace BK524 := xA (blk_drew BK524.out)
 replace HB := xA (below_drew1 HB.out)
 refine start_ (n := 15) (S := fun w' => w'.cell? ⟨gb524, 0, none⟩ = some (.int .i64 a0_0) ∧ w'.cell? ⟨gb524, 1, none⟩ = some (.int .i64 a0_1) ∧ w'.cell? ⟨gb524, 2, none⟩ = some (.int .i64 a0_2) ∧ w'.cell? ⟨gb524, 3, none⟩ = some (.int .i64 a0_3) ∧ w'.cell? ⟨gb524, 4, none⟩ = some (.bool a0_4)) (ds := []) x12a13 (by kernel_rfl) rfl rfl ⟨(blk_cell BK524.out 0).trans rfl, (blk_cell BK524.out 1).trans rfl, (blk_cell BK524.out 2).trans rfl, (blk_cell BK524.out 3).trans rfl, (blk_cell BK524.out 4).trans rfl⟩ (fun hHeld => ?_); refine with_tabW spec_GainOfFirst.tab3 spec_GainOfFirst.bits3 (fun HT_ HW_ => ?_)
 generalize w15.drew = w16 at BK524 HB hHeld ⊢
 refine xP 0 19 x12a14 ?_
 refine xP 3 22 x12a15 ?_
 refine xP 6 25 x12a16 ?_
 refine xT5 hHeld 1 20 x12a17 ?_
 refine xP 2 21 x12a18 ?_
 refine xT5 hHeld 4 23 x12a19 ?_
 refine xP 5 24 x12a20 ?_
 refine xT5 hHeld 7 26 x12a21 ?_
 refine xP 8 27 x12a22 ?_
 refine xU 9 28 x12a23 (fun K hK => ?_)
 refine xY1 hji5 Try.func299 #[.int .i64 ji5, .int .i64 (wrap64 ((ji5) - a0_0))] ?_
 with_reducible refine (spec_foRatio.calls k ji5 (wrap64 ((ji5) - a0_0)) t526 t527 _ A12.out).mono ?_
 rintro e w' ⟨rfl, ⟨nd, rfl⟩⟩
 refine ⟨_, rfl, ?_⟩
 refine hK.out _ _ ⟨(blk_cell BK524.out 0).trans rfl, (blk_cell BK524.out 1).trans rfl, (blk_cell BK524.out 2).trans rfl, (blk_cell BK524.out 3).trans rfl, (blk_cell BK524.out 4).trans rfl⟩ (fun hHeld => ?_)
 clear hK K
 refine xN ?_
 refine xP 10 18 x12a24 ?_
 refine xP 11 29 x12a25 ?_
 refine xP 12 30 x12a26 ?_
 refine xP 13 5 x12a27 ?_
 refine xP 14 6 x12a28 ?_
 refine xDn ?_
 try go_wp2
 go_ret3
 exact ⟨by first | rfl | (simp [errW_none, errW_some] <;> rfl) | (simp only [← hji5]; first | rfl | (simp [errW_none, errW_some] <;> rfl)) | (simp [*, errW_none, errW_some] <;> rfl), xB1 GE524.out HB.out⟩
end Go.Proofs.Ytjplcongellcmaa.PFnFirstCycles
