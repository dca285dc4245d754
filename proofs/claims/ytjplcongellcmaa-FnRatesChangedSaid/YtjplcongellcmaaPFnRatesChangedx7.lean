/- What each Go function that the statement FnRatesChanged reaches answers, proved call by call. No condition beyond those that the theorems print. (Written by wip/tools/xprint.py of this repo, over the kit's print.) -/
import Derived.Test.YtjplcongellcmaaPFnRatesChangedx0
import Derived.Test.YtjplcongellcmaaPFnRatesChangedx1
import Derived.Test.YtjplcongellcmaaPFnRatesChangedx2
namespace Go.Proofs.Ytjplcongellcmaa.PFnRatesChanged
open Go.RowKit Go.Proofs.YtjplcongellcmaaW.PrintWords Go.Proofs.YtjplcongellcmaaW.PrintLast Go.Proofs.YtjplcongellcmaaW.PrintMore
attribute [local go_sem] max2_int min2_int max_two min_two max_three min_three max_four min_four   -- for this text's walks alone
set_option linter.unusedVariables false
set_option linter.unusedSimpArgs false

/-! ### spec_DrawLeastRatio: function 32 -/
def spec_DrawLeastRatio.f (l0 : List Int) : Option (Int × Int) := (spec_l1Cur_one.f l0 0 0 4).bind fun bt376 => (if bt376.1 = true then ((spec_l1Cur_ratio.f l0 bt376.2.1 bt376.2.2).bind fun bt379 => (some (bt379.1, bt379.2.1))) else ((spec_l1Cur_pick.f l0 bt376.2.1 bt376.2.2 8).bind fun bt383 => ((spec_l1Cur_pick.f l0 bt383.2.1 bt383.2.2 8).bind fun bt386 => (some (wrap64 (1 + bt383.1), wrap64 (1 + bt386.1))))))
set_option maxHeartbeats 8000000 in
set_option maxRecDepth 100000 in
theorem spec_DrawLeastRatio.calls (A0 : Option Addr) (c0 : Nat) (l0 : List Int) (r1 : Int) (r2 : Int) (w : World) (hr0 : Kd.C (Kd.int .u8) w A0 l0.length l0) (hc0 : l0.length ≤ c0) (h : spec_DrawLeastRatio.f l0 = some (r1, r2)) :
  Calls Try.prog 32 #[.slice A0 l0.length c0] w fun e w' => e = .returned (.tuple #[.int .i64 r1, .int .i64 r2]) ∧ Below w.heap.size w w' := by
 have hu129 := Try.underlying129
 have HR0 := Aside0.mk hr0
 have HC0 := Aside0.mk hc0
 clear hr0 hc0
 have HB := Aside0.mk (Below.refl w.heap.size w)
 have H : ((spec_l1Cur_one.f l0 0 0 4).bind fun bt376 => (if bt376.1 = true then ((spec_l1Cur_ratio.f l0 bt376.2.1 bt376.2.2).bind fun bt379 => (some (bt379.1, bt379.2.1))) else ((spec_l1Cur_pick.f l0 bt376.2.1 bt376.2.2 8).bind fun bt383 => ((spec_l1Cur_pick.f l0 bt383.2.1 bt383.2.2 8).bind fun bt386 => (some (wrap64 (1 + bt383.1), wrap64 (1 + bt386.1))))))) = some (r1, r2) := h
 clear h
 replace H := Option.bind_eq_some_iff.mp H
 obtain ⟨⟨t376, t377, t378⟩, A20, H⟩ := H
 (try dsimp only at H)
 have A2 := Aside0.mk A20
 clear A20
 by_cases c3 : t376 = true
 ·subst c3
  rw [if_pos rfl] at H
  replace H := Option.bind_eq_some_iff.mp H
  obtain ⟨⟨t379, t380, t381, t382⟩, A40, H⟩ := H
  (try dsimp only at H)
  have A4 := Aside0.mk A40
  clear A40
  simp only [Option.some.injEq, Prod.mk.injEq] at H
  obtain ⟨rfl, rfl⟩ := H
  go_enter Try.func32, Try.ntmps32
  go_wp2_with (first | (refine xV 7 #[.slice A0 l0.length c0, .int .i64 0, .int .u64 0] 129 ?_; intro gb375 hg w5 hbox hb; have HI375 := Aside0.mk ((show IsS129 w _ gb375 l0 0 0 from ⟨_, _, hbox, (by rw [hg]; exact (below_size (xB HB.out)) : w.heap.size ≤ gb375), HR0.out⟩)); replace HB := Aside0.mk (below_step (xB HB.out) hb); clear hb hbox hg) | (refine xG (some 9) Try.func227 #[.pointer (some ⟨gb375, 0, none⟩), .int .i64 4] ?_; (with_reducible refine (spec_l1Cur_one.calls gb375 l0 0 0 4 true t377 t378 w _ ?side1 ?side2 A2.out).mono ?_); (case side1 => repeat (first | (with_reducible first | exact HI375.out | apply IsS129.alloc | apply IsS129.drewN | apply IsS129.drew | apply IsS129.set_1 | apply IsS129.set_2) | exact HI375.out)); (case side2 => repeat (first | (with_reducible first | exact HB.out | apply below_alloc | apply pw_below_drewN | apply below_drew1 | refine below_set ?_ (IsS129.ge HI375.out)) | exact HB.out)); rintro e w6 ⟨rfl, hi, hb, hk⟩; refine ⟨_, rfl, ?_⟩; replace HB := Aside0.mk (hb); replace HI375 := Aside0.mk (hi); (try clear hb); (try clear hb2); (try clear hk); (try clear hi)) | (refine xG (some 11) Try.func213 #[.pointer (some ⟨gb375, 0, none⟩)] ?_; (with_reducible refine (spec_l1Cur_ratio.calls gb375 l0 t377 t378 t379 t380 t381 t382 w _ ?side1 ?side2 A4.out).mono ?_); (case side1 => repeat (first | (with_reducible first | exact HI375.out | apply IsS129.alloc | apply IsS129.drewN | apply IsS129.drew | apply IsS129.set_1 | apply IsS129.set_2) | exact HI375.out)); (case side2 => repeat (first | (with_reducible first | exact HB.out | apply below_alloc | apply pw_below_drewN | apply below_drew1 | refine below_set ?_ (IsS129.ge HI375.out)) | exact HB.out)); rintro e w7 ⟨rfl, hi, hb, hk⟩; refine ⟨_, rfl, ?_⟩; replace HB := Aside0.mk (hb); replace HI375 := Aside0.mk (hi); (try clear hb); (try clear hb2); (try clear hk); (try clear hi)))
  go_ret2
  exact ⟨by first | rfl | (simp [errW_none, errW_some] <;> rfl) | (simp [*, errW_none, errW_some] <;> rfl), by repeat (first | (with_reducible first | exact HB.out | apply below_alloc | apply pw_below_drewN | apply below_drew1 | refine below_set ?_ (IsS129.ge HI375.out)) | exact HB.out)⟩
 replace c3 := Bool.eq_false_iff.mpr c3
 subst c3
 rw [if_neg (show ¬ (false = true) by decide)] at H
 replace H := Option.bind_eq_some_iff.mp H
 obtain ⟨⟨t383, t384, t385⟩, A80, H⟩ := H
 (try dsimp only at H)
 have A8 := Aside0.mk A80
 clear A80
 replace H := Option.bind_eq_some_iff.mp H
 obtain ⟨⟨t386, t387, t388⟩, A90, H⟩ := H
 (try dsimp only at H)
 have A9 := Aside0.mk A90
 clear A90
 simp only [Option.some.injEq, Prod.mk.injEq] at H
 obtain ⟨rfl, rfl⟩ := H
 go_enter Try.func32, Try.ntmps32
 go_wp2_with (first | (refine xV 7 #[.slice A0 l0.length c0, .int .i64 0, .int .u64 0] 129 ?_; intro gb375 hg w10 hbox hb; have HI375 := Aside0.mk ((show IsS129 w _ gb375 l0 0 0 from ⟨_, _, hbox, (by rw [hg]; exact (below_size (xB HB.out)) : w.heap.size ≤ gb375), HR0.out⟩)); replace HB := Aside0.mk (below_step (xB HB.out) hb); clear hb hbox hg) | (refine xG (some 9) Try.func227 #[.pointer (some ⟨gb375, 0, none⟩), .int .i64 4] ?_; (with_reducible refine (spec_l1Cur_one.calls gb375 l0 0 0 4 false t377 t378 w _ ?side1 ?side2 A2.out).mono ?_); (case side1 => repeat (first | (with_reducible first | exact HI375.out | apply IsS129.alloc | apply IsS129.drewN | apply IsS129.drew | apply IsS129.set_1 | apply IsS129.set_2) | exact HI375.out)); (case side2 => repeat (first | (with_reducible first | exact HB.out | apply below_alloc | apply pw_below_drewN | apply below_drew1 | refine below_set ?_ (IsS129.ge HI375.out)) | exact HB.out)); rintro e w11 ⟨rfl, hi, hb, hk⟩; refine ⟨_, rfl, ?_⟩; replace HB := Aside0.mk (hb); replace HI375 := Aside0.mk (hi); (try clear hb); (try clear hb2); (try clear hk); (try clear hi)) | (refine xG (some 15) Try.func229 #[.pointer (some ⟨gb375, 0, none⟩), .int .i64 8] ?_; (with_reducible refine (spec_l1Cur_pick.calls gb375 l0 t377 t378 8 t383 t384 t385 w _ ?side1 ?side2 A8.out).mono ?_); (case side1 => repeat (first | (with_reducible first | exact HI375.out | apply IsS129.alloc | apply IsS129.drewN | apply IsS129.drew | apply IsS129.set_1 | apply IsS129.set_2) | exact HI375.out)); (case side2 => repeat (first | (with_reducible first | exact HB.out | apply below_alloc | apply pw_below_drewN | apply below_drew1 | refine below_set ?_ (IsS129.ge HI375.out)) | exact HB.out)); rintro e w12 ⟨rfl, hi, hb, hk⟩; refine ⟨_, rfl, ?_⟩; replace HB := Aside0.mk (hb); replace HI375 := Aside0.mk (hi); (try clear hb); (try clear hb2); (try clear hk); (try clear hi)) | (refine xG (some 18) Try.func229 #[.pointer (some ⟨gb375, 0, none⟩), .int .i64 8] ?_; (with_reducible refine (spec_l1Cur_pick.calls gb375 l0 t384 t385 8 t386 t387 t388 w _ ?side1 ?side2 A9.out).mono ?_); (case side1 => repeat (first | (with_reducible first | exact HI375.out | apply IsS129.alloc | apply IsS129.drewN | apply IsS129.drew | apply IsS129.set_1 | apply IsS129.set_2) | exact HI375.out)); (case side2 => repeat (first | (with_reducible first | exact HB.out | apply below_alloc | apply pw_below_drewN | apply below_drew1 | refine below_set ?_ (IsS129.ge HI375.out)) | exact HB.out)); rintro e w13 ⟨rfl, hi, hb, hk⟩; refine ⟨_, rfl, ?_⟩; replace HB := Aside0.mk (hb); replace HI375 := Aside0.mk (hi); (try clear hb); (try clear hb2); (try clear hk); (try clear hi)))
 go_ret2
 exact ⟨by first | rfl | (simp [errW_none, errW_some] <;> rfl) | (simp [*, errW_none, errW_some] <;> rfl), by repeat (first | (with_reducible first | exact HB.out | apply below_alloc | apply pw_below_drewN | apply below_drew1 | refine below_set ?_ (IsS129.ge HI375.out)) | exact HB.out)⟩

/-! ### spec_LeastRatio: function 33 -/
def spec_LeastRatio.l0 : Nat → Int → Int → Int → Int → Option (Int × Int × Bool)
 | 0, _, _, _, _ => none
 | k + 1, x0, x1, x7, x8 => if x8 > 0 then (if x8 = 0 then (none) else (spec_LeastRatio.l0 k x0 x1 x8 (Int.tmod x7 x8))) else (if x7 = 0 then (none) else (some (wrap64 (Int.tdiv x0 x7), wrap64 (Int.tdiv x1 x7), true)))
def spec_LeastRatio.f (k : Nat) (a0 : Int) (a1 : Int) : Option (Int × Int × Bool) := (spec_rsRatio.f a0 a1).bind fun t389 => (if t389 = true then (spec_LeastRatio.l0 k a0 a1 a0 a1) else (some (0, 0, false)))
theorem spec_LeastRatio.mono_l : ∀ k, (∀ y0 y1 y2 y3, LeO (spec_LeastRatio.l0 k y0 y1 y2 y3) (spec_LeastRatio.l0 (k + 1) y0 y1 y2 y3))
 | 0 => fun _ _ _ _ r h => by simp [spec_LeastRatio.l0] at h
 | k + 1 => by
  have ih0 := spec_LeastRatio.mono_l k
  intros
  unfold spec_LeastRatio.l0
  exact xM
theorem spec_LeastRatio.mono : ∀ a0 a1 k, LeO (spec_LeastRatio.f k a0 a1) (spec_LeastRatio.f (k + 1) a0 a1) := by
 intro a0 a1 k
 have ih0 := spec_LeastRatio.mono_l k
 unfold spec_LeastRatio.f
 exact xM
set_option maxHeartbeats 8000000 in
set_option maxRecDepth 100000 in
theorem spec_LeastRatio.calls (k : Nat) (a0 : Int) (a1 : Int) (r1 : Int) (r2 : Int) (r3 : Bool) (w : World) (h : spec_LeastRatio.f k a0 a1 = some (r1, r2, r3)) :
  Calls Try.prog 33 #[.int .i64 a0, .int .i64 a1] w fun e w' => e = .returned (.tuple #[.int .i64 r1, .int .i64 r2, .bool r3]) ∧ Drawn0 w w' := by
 have H : ((spec_rsRatio.f a0 a1).bind fun t389 => (if t389 = true then (spec_LeastRatio.l0 k a0 a1 a0 a1) else (some (0, 0, false)))) = some (r1, r2, r3) := h
 clear h
 obtain ⟨t389, A3, H⟩ := xO H
 (try dsimp only at H)
 by_cases c4 : t389 = true
 rotate_left
 ·replace c4 := Bool.eq_false_iff.mpr c4
  subst c4
  rw [if_neg (show ¬ (false = true) by decide)] at H
  simp only [Option.some.injEq, Prod.mk.injEq] at H
  obtain ⟨rfl, rfl, rfl⟩ := H
  go_enter Try.func33, Try.ntmps33
  go_wp2_with (first | (go_at_call 231; (with_reducible refine (spec_rsRatio.calls a0 a1 false _ A3.out).mono ?_); rintro e w' ⟨rfl, ⟨nd, rfl⟩⟩; (try exact xD)))
  repeat (go_quiet (first | (go_at_call 231; (with_reducible refine (spec_rsRatio.calls a0 a1 false _ A3.out).mono ?_); rintro e w' ⟨rfl, ⟨nd, rfl⟩⟩; (try exact xD))); try go_wp2_with (first | (go_at_call 231; (with_reducible refine (spec_rsRatio.calls a0 a1 false _ A3.out).mono ?_); rintro e w' ⟨rfl, ⟨nd, rfl⟩⟩; (try exact xD))))
  go_ret3
  exact ⟨by first | rfl | (simp; done) | (simp [*]; done), by repeat (first | exact Drawn0.refl _ | apply Drawn0.step)⟩

 subst c4
 rw [if_pos rfl] at H
 have H' := Aside0.mk H
 clear H
 go_enter Try.func33, Try.ntmps33
 go_wp2_with (first | (go_at_call 231; (with_reducible refine (spec_rsRatio.calls a0 a1 true _ A3.out).mono ?_); rintro e w' ⟨rfl, ⟨nd, rfl⟩⟩; (try exact xD)))
 repeat (go_quiet (first | (go_at_call 231; (with_reducible refine (spec_rsRatio.calls a0 a1 true _ A3.out).mono ?_); rintro e w' ⟨rfl, ⟨nd, rfl⟩⟩; (try exact xD))); try go_wp2_with (first | (go_at_call 231; (with_reducible refine (spec_rsRatio.calls a0 a1 true _ A3.out).mono ?_); rintro e w' ⟨rfl, ⟨nd, rfl⟩⟩; (try exact xD))))
 go_loopg [7, 8] k (fun kq v7 v8 w' => ∃ (x7_1 : Int) (x8_1 : Int), v7 = .int .i64 x7_1 ∧ v8 = .int .i64 x8_1 ∧ Aside0 (spec_LeastRatio.l0 kq a0 a1 x7_1 x8_1 = some (r1, r2, r3)) ∧ Aside0 (kq ≤ k) ∧ Drawn0 w w')
 case atStart => exact ⟨(a0), (a1), (by first | rfl | (simp; done) | (simp [*]; done)), (by first | rfl | (simp; done) | (simp [*]; done)), H', ⟨Nat.le_refl _⟩, by repeat (first | exact Drawn0.refl _ | apply Drawn0.step)⟩
 case round =>
  clear H'
  try clear c4
  obtain ⟨x7_1, x8_1, rfl, rfl, HA, HK1, ⟨m1, rfl⟩⟩ := hrel
  cases gk with
  | zero => exact absurd HA.out (by simp [spec_LeastRatio.l0])
  | succ k1 =>
   have H := HA.out
   clear HA
   simp only [spec_LeastRatio.l0] at H
   by_cases c5 : x8_1 > 0
   rotate_left
   ·rw [if_neg c5] at H
    have c5b0 : decide (0 < x8_1) = false := decide_eq_false c5
    clear c5
    by_cases c7 : x7_1 = 0
    ·rw [if_pos c7] at H
     exact absurd H (by simp)
    rw [if_neg c7] at H
    have c7b0 : (x7_1 == 0) = false := beq_eq_false_iff_ne.mpr c7
    have c7b1 : (x7_1 != 0) = true := bne_iff_ne.mpr c7
    simp only [Option.some.injEq, Prod.mk.injEq] at H
    obtain ⟨rfl, rfl, rfl⟩ := H
    go_wp2
    repeat (go_quiet (fail); try go_wp2)
    go_ret3
    exact ⟨by first | rfl | (simp; done) | (simp [*]; done), by repeat (first | exact Drawn0.refl _ | apply Drawn0.step)⟩
   rw [if_pos c5] at H
   have c5b0 : decide (0 < x8_1) = true := decide_eq_true c5
   clear c5
   by_cases c6 : x8_1 = 0
   ·rw [if_pos c6] at H
    exact absurd H (by simp)
   rw [if_neg c6] at H
   have c6b0 : (x8_1 == 0) = false := beq_eq_false_iff_ne.mpr c6
   have c6b1 : (x8_1 != 0) = true := bne_iff_ne.mpr c6
   have H' := Aside0.mk H
   clear H
   go_wp2
   repeat (go_quiet (fail); try go_wp2)
   go_roundg k1
   case measure => have := HK1.out; omega
   case rel => exact ⟨(x8_1), (Int.tmod x7_1 x8_1), (by first | rfl | (simp; done) | (simp [*]; done)), (by first | rfl | (simp; done) | (simp [*]; done)), H', ⟨by have := HK1.out; omega⟩, by repeat (first | exact Drawn0.refl _ | apply Drawn0.step)⟩
/-! ### laws_iCommon: function 34 -/
def laws_iCommon.l0 : Nat → Int → Int → Option (Int)
 | 0, _, _ => none
 | k + 1, x0, x1 => if x1 > 0 then (if x1 = 0 then (none) else (laws_iCommon.l0 k x1 (Int.tmod x0 x1))) else (some x0)
def laws_iCommon.f (k : Nat) (a0 : Int) (a1 : Int) : Option (Int) := laws_iCommon.l0 k a0 a1
theorem laws_iCommon.mono_l : ∀ k, (∀ y0 y1, LeO (laws_iCommon.l0 k y0 y1) (laws_iCommon.l0 (k + 1) y0 y1))
 | 0 => fun _ _ r h => by simp [laws_iCommon.l0] at h
 | k + 1 => by
  have ih0 := laws_iCommon.mono_l k
  intros
  unfold laws_iCommon.l0
  exact xM
theorem laws_iCommon.mono : ∀ a0 a1 k, LeO (laws_iCommon.f k a0 a1) (laws_iCommon.f (k + 1) a0 a1) := by
 intro a0 a1 k
 have ih0 := laws_iCommon.mono_l k
 unfold laws_iCommon.f
 exact xM
set_option maxHeartbeats 8000000 in
set_option maxRecDepth 100000 in
theorem laws_iCommon.calls (k : Nat) (a0 : Int) (a1 : Int) (r : Int) (w : World) (h : laws_iCommon.f k a0 a1 = some r) :
  Calls Try.prog 34 #[.int .i64 a0, .int .i64 a1] w fun e w' => e = .returned (.int .i64 r) ∧ Drawn0 w w' := by
 have H : (laws_iCommon.l0 k a0 a1) = some r := h
 clear h
 have H' := Aside0.mk H
 clear H
 go_enter Try.func34, Try.ntmps34
 go_wp2
 repeat (go_quiet (fail); try go_wp2)
 go_loopg [0, 1] k (fun kq v0 v1 w' => ∃ (x0_1 : Int) (x1_1 : Int), v0 = .int .i64 x0_1 ∧ v1 = .int .i64 x1_1 ∧ Aside0 (laws_iCommon.l0 kq x0_1 x1_1 = some r) ∧ Aside0 (kq ≤ k) ∧ Drawn0 w w')
 case atStart => exact ⟨(a0), (a1), (by first | rfl | (simp; done) | (simp [*]; done)), (by first | rfl | (simp; done) | (simp [*]; done)), H', ⟨Nat.le_refl _⟩, by repeat (first | exact Drawn0.refl _ | apply Drawn0.step)⟩
 case round =>
  clear H'
  obtain ⟨x0_1, x1_1, rfl, rfl, HA, HK1, ⟨m1, rfl⟩⟩ := hrel
  cases gk with
  | zero => exact absurd HA.out (by simp [laws_iCommon.l0])
  | succ k1 =>
   have H := HA.out
   clear HA
   simp only [laws_iCommon.l0] at H
   by_cases c3 : x1_1 > 0
   rotate_left
   ·rw [if_neg c3] at H
    have c3b0 : decide (0 < x1_1) = false := decide_eq_false c3
    clear c3
    obtain rfl := Option.some.inj H
    go_wp2
    repeat (go_quiet (fail); try go_wp2)
    go_ret
    exact ⟨by first | rfl | (simp; done) | (simp [*]; done), by repeat (first | exact Drawn0.refl _ | apply Drawn0.step)⟩

   rw [if_pos c3] at H
   have c3b0 : decide (0 < x1_1) = true := decide_eq_true c3
   clear c3
   by_cases c4 : x1_1 = 0
   ·rw [if_pos c4] at H
    exact absurd H (by simp)
   rw [if_neg c4] at H
   have c4b0 : (x1_1 == 0) = false := beq_eq_false_iff_ne.mpr c4
   have c4b1 : (x1_1 != 0) = true := bne_iff_ne.mpr c4
   have H' := Aside0.mk H
   clear H
   go_wp2
   repeat (go_quiet (fail); try go_wp2)
   go_roundg k1
   case measure => have := HK1.out; omega
   case rel => exact ⟨(x1_1), (Int.tmod x0_1 x1_1), (by first | rfl | (simp; done) | (simp [*]; done)), (by first | rfl | (simp; done) | (simp [*]; done)), H', ⟨by have := HK1.out; omega⟩, by repeat (first | exact Drawn0.refl _ | apply Drawn0.step)⟩
end Go.Proofs.Ytjplcongellcmaa.PFnRatesChanged
