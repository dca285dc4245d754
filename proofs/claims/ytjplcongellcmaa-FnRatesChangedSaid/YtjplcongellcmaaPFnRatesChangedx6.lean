/- What each Go function that the statement FnRatesChanged reaches answers, proved call by call. No condition beyond those that the theorems print. (Written by wip/tools/xprint.py of this repo, over the kit's print.) -/
import Derived.Test.YtjplcongellcmaaPFnRatesChangedx0
import Derived.Test.YtjplcongellcmaaPFnRatesChangedx1
import Derived.Test.YtjplcongellcmaaPFnRatesChangedx2
import Derived.Test.YtjplcongellcmaaPFnRatesChangedx3
import Derived.Test.YtjplcongellcmaaPFnRatesChangedx4
import Derived.Test.YtjplcongellcmaaPFnRatesChangedx5
namespace Go.Proofs.Ytjplcongellcmaa.PFnRatesChanged
open Go.RowKit Go.Proofs.YtjplcongellcmaaW.PrintWords Go.Proofs.YtjplcongellcmaaW.PrintLast Go.Proofs.YtjplcongellcmaaW.PrintMore
attribute [local go_sem] max2_int min2_int max_two min_two max_three min_three max_four min_four   -- for this text's walks alone
set_option linter.unusedVariables false
set_option linter.unusedSimpArgs false

/-! ### laws_iSame: function 21 -/
def laws_iSame.l0 : Nat → List Int → List Int → Int → Int → Option (Bool)
 | 0, _, _, _, _ => none
 | k + 1, x0, x1, x12, x13 => if x13 < x12 then (if 0 ≤ x13 then (if x13 < (x0.length : Int) then (if x13 < (x1.length : Int) then (if (rd x0 x13) = (rd x1 x13) then (laws_iSame.l0 k x0 x1 x12 (wrap64 (x13 + 1))) else (some false)) else (none)) else (none)) else (none)) else (some true)
def laws_iSame.f (k : Nat) (l0 : List Int) (l1 : List Int) : Option (Bool) := if (l0.length : Int) = (l1.length : Int) then (laws_iSame.l0 k l0 l1 (l0.length : Int) 0) else (some false)
theorem laws_iSame.mono_l : ∀ k, (∀ y0 y1 y2 y3, LeO (laws_iSame.l0 k y0 y1 y2 y3) (laws_iSame.l0 (k + 1) y0 y1 y2 y3))
 | 0 => fun _ _ _ _ r h => by simp [laws_iSame.l0] at h
 | k + 1 => by
  have ih0 := laws_iSame.mono_l k
  intros
  unfold laws_iSame.l0
  exact xM
theorem laws_iSame.mono : ∀ a0 a1 k, LeO (laws_iSame.f k a0 a1) (laws_iSame.f (k + 1) a0 a1) := by
 intro a0 a1 k
 have ih0 := laws_iSame.mono_l k
 unfold laws_iSame.f
 exact xM
set_option maxHeartbeats 8000000 in
set_option maxRecDepth 100000 in
theorem laws_iSame.calls (k : Nat) (A0 : Option Addr) (c0 : Nat) (l0 : List Int) (A1 : Option Addr) (c1 : Nat) (l1 : List Int) (r : Bool) (w : World) (hr0 : Kd.C (Kd.int .i64) w A0 l0.length l0) (hc0 : l0.length ≤ c0) (hr1 : Kd.C (Kd.int .i64) w A1 l1.length l1) (hc1 : l1.length ≤ c1) (h : laws_iSame.f k l0 l1 = some r) :
  Calls Try.prog 21 #[.slice A0 l0.length c0, .slice A1 l1.length c1] w fun e w' => e = .returned (.bool r) ∧ Drawn0 w w' := by
 have HR0 := Aside0.mk hr0
 have HC0 := Aside0.mk hc0
 clear hr0 hc0
 have HR1 := Aside0.mk hr1
 have HC1 := Aside0.mk hc1
 clear hr1 hc1
 have H : (if (l0.length : Int) = (l1.length : Int) then (laws_iSame.l0 k l0 l1 (l0.length : Int) 0) else (some false)) = some r := h
 clear h
 by_cases c3 : (l0.length : Int) = (l1.length : Int)
 rotate_left
 ·rw [if_neg c3] at H
  have c3b0 : ((l0.length : Int) == (l1.length : Int)) = false := beq_eq_false_iff_ne.mpr c3
  have c3b1 : ((l0.length : Int) != (l1.length : Int)) = true := bne_iff_ne.mpr c3
  have c3b2 : (l0.length == l1.length) = false := by first | simpa using c3 | (simp at c3 ⊢; omega)
  obtain rfl := Option.some.inj H
  go_enter Try.func21, Try.ntmps21
  go_wp2
  repeat (go_quiet (fail); try go_wp2)
  go_ret
  exact ⟨by first | rfl | (simp; done) | (simp [*]; done), by repeat (first | exact Drawn0.refl _ | apply Drawn0.step)⟩

 rw [if_pos c3] at H
 have c3b0 : ((l0.length : Int) == (l1.length : Int)) = true := beq_iff_eq.mpr c3
 have c3b1 : ((l0.length : Int) != (l1.length : Int)) = false := bne_eq_false_iff_eq.mpr c3
 have c3b2 : (l0.length == l1.length) = true := by first | simpa using c3 | (simp at c3 ⊢; omega)
 clear c3
 have H' := Aside0.mk H
 clear H
 go_enter Try.func21, Try.ntmps21
 go_wp2
 repeat (go_quiet (fail); try go_wp2)
 go_loopg [13] k (fun kq v13 w' => ∃ (x13_1 : Int), v13 = .int .i64 x13_1 ∧ Aside0 (laws_iSame.l0 kq l0 l1 (l0.length : Int) x13_1 = some r) ∧ Aside0 (kq ≤ k) ∧ Drawn0 w w')
 case atStart => exact ⟨(0), (by first | rfl | (simp; done) | (simp [*]; done)), H', ⟨Nat.le_refl _⟩, by repeat (first | exact Drawn0.refl _ | apply Drawn0.step)⟩
 case round =>
  clear H'
  try clear c1
  try clear c3b0
  try clear c3b1
  try clear c3b2
  obtain ⟨x13_1, rfl, HA, HK1, ⟨m1, rfl⟩⟩ := hrel
  cases gk with
  | zero => exact absurd HA.out (by simp [laws_iSame.l0])
  | succ k1 =>
   have H := HA.out
   clear HA
   simp only [laws_iSame.l0] at H
   by_cases c4 : x13_1 < (l0.length : Int)
   rotate_left
   ·rw [if_neg c4] at H
    have c4b0 : decide (x13_1 < (l0.length : Int)) = false := decide_eq_false c4
    clear c4
    obtain rfl := Option.some.inj H
    go_wp2
    repeat (go_quiet (fail); try go_wp2)
    go_ret
    exact ⟨by first | rfl | (simp; done) | (simp [*]; done), by repeat (first | exact Drawn0.refl _ | apply Drawn0.step)⟩
   rw [if_pos c4] at H
   have c4b0 : decide (x13_1 < (l0.length : Int)) = true := decide_eq_true c4
   clear c4
   by_cases c5 : 0 ≤ x13_1
   rotate_left
   ·rw [if_neg c5] at H
    exact absurd H (by simp)
   rw [if_pos c5] at H
   have c5b0 : decide (0 ≤ x13_1) = true := decide_eq_true c5
   clear c5
   by_cases c6 : x13_1 < (l0.length : Int)
   rotate_left
   ·rw [if_neg c6] at H
    exact absurd H (by simp)
   rw [if_pos c6] at H
   have c6b0 : decide (x13_1 < (l0.length : Int)) = true := decide_eq_true c6
   clear c6
   by_cases c7 : x13_1 < (l1.length : Int)
   rotate_left
   ·rw [if_neg c7] at H
    exact absurd H (by simp)
   rw [if_pos c7] at H
   have c7b0 : decide (x13_1 < (l1.length : Int)) = true := decide_eq_true c7
   clear c7
   by_cases c8 : (rd l0 x13_1) = (rd l1 x13_1)
   rotate_left
   ·rw [if_neg c8] at H
    have c8b0 : ((rd l0 x13_1) == (rd l1 x13_1)) = false := beq_eq_false_iff_ne.mpr c8
    have c8b1 : ((rd l0 x13_1) != (rd l1 x13_1)) = true := bne_iff_ne.mpr c8
    obtain rfl := Option.some.inj H
    have p303 : 0 ≤ (x13_1 : Int) := of_decide_eq_true (by first | (with_reducible assumption) | assumption)
    have q303 : x13_1 < (l0.length : Int) := of_decide_eq_true (by first | (with_reducible assumption) | assumption)
    obtain ⟨ad303, e303, hx303_0⟩ := Kd.at_int HR0.out x13_1 p303 q303
    cases e303
    replace p303 := eq_true p303
    replace q303 := eq_true q303
    have p304 : 0 ≤ (x13_1 : Int) := of_decide_eq_true (by first | (with_reducible assumption) | assumption)
    have q304 : x13_1 < (l1.length : Int) := of_decide_eq_true (by first | (with_reducible assumption) | assumption)
    obtain ⟨ad304, e304, hx304_0⟩ := Kd.at_int HR1.out x13_1 p304 q304
    cases e304
    replace p304 := eq_true p304
    replace q304 := eq_true q304
    go_wp2
    repeat (go_quiet (fail); try go_wp2)
    go_ret
    exact ⟨by first | rfl | (simp; done) | (simp [*]; done), by repeat (first | exact Drawn0.refl _ | apply Drawn0.step)⟩
   rw [if_pos c8] at H
   have c8b0 : ((rd l0 x13_1) == (rd l1 x13_1)) = true := beq_iff_eq.mpr c8
   have c8b1 : ((rd l0 x13_1) != (rd l1 x13_1)) = false := bne_eq_false_iff_eq.mpr c8
   clear c8
   have H' := Aside0.mk H
   clear H
   have p303 : 0 ≤ (x13_1 : Int) := of_decide_eq_true (by first | (with_reducible assumption) | assumption)
   have q303 : x13_1 < (l0.length : Int) := of_decide_eq_true (by first | (with_reducible assumption) | assumption)
   obtain ⟨ad303, e303, hx303_0⟩ := Kd.at_int HR0.out x13_1 p303 q303
   cases e303
   replace p303 := eq_true p303
   replace q303 := eq_true q303
   have p304 : 0 ≤ (x13_1 : Int) := of_decide_eq_true (by first | (with_reducible assumption) | assumption)
   have q304 : x13_1 < (l1.length : Int) := of_decide_eq_true (by first | (with_reducible assumption) | assumption)
   obtain ⟨ad304, e304, hx304_0⟩ := Kd.at_int HR1.out x13_1 p304 q304
   cases e304
   replace p304 := eq_true p304
   replace q304 := eq_true q304
   go_wp2
   repeat (go_quiet (fail); try go_wp2)
   go_roundg k1
   case measure => have := HK1.out; omega
   case rel => exact ⟨(wrap64 (x13_1 + 1)), (by first | rfl | (simp; done) | (simp [*]; done)), H', ⟨by have := HK1.out; omega⟩, by repeat (first | exact Drawn0.refl _ | apply Drawn0.step)⟩
/-! ### impl_LengthAfter: function 22 -/
def impl_LengthAfter.f (a0 : Int) (a1 : Int) (a2 : Int) : Option (Int × Bool) := (impl_in.f a0 0 64).bind fun t305 => (if t305 = true then ((impl_isRatio.f a1 a2).bind fun t306 => (if t306 = true then ((impl_lengthAfter.f a0 a1 a2).bind fun t307 => (some (t307, true))) else (some (0, false)))) else (some (0, false)))
set_option maxHeartbeats 8000000 in
set_option maxRecDepth 100000 in
theorem impl_LengthAfter.calls (a0 : Int) (a1 : Int) (a2 : Int) (r1 : Int) (r2 : Bool) (w : World) (h : impl_LengthAfter.f a0 a1 a2 = some (r1, r2)) :
  Calls Try.prog 22 #[.int .i64 a0, .int .i64 a1, .int .i64 a2] w fun e w' => e = .returned (.tuple #[.int .i64 r1, .bool r2]) ∧ Drawn0 w w' := by
 have H : ((impl_in.f a0 0 64).bind fun t305 => (if t305 = true then ((impl_isRatio.f a1 a2).bind fun t306 => (if t306 = true then ((impl_lengthAfter.f a0 a1 a2).bind fun t307 => (some (t307, true))) else (some (0, false)))) else (some (0, false)))) = some (r1, r2) := h
 clear h
 obtain ⟨t305, A4, H⟩ := xO H
 (try dsimp only at H)
 by_cases c5 : t305 = true
 rotate_left
 ·replace c5 := Bool.eq_false_iff.mpr c5
  subst c5
  rw [if_neg (show ¬ (false = true) by decide)] at H
  simp only [Option.some.injEq, Prod.mk.injEq] at H
  obtain ⟨rfl, rfl⟩ := H
  go_enter Try.func22, Try.ntmps22
  go_wp2_with (first | (refine xG (some 9) Try.func223 #[.int .i64 a0, .int .i64 0, .int .i64 64] ?_; (with_reducible refine (impl_in.calls a0 0 64 false _ A4.out).mono ?_); rintro e w' ⟨rfl, ⟨nd, rfl⟩⟩; refine ⟨_, rfl, ?_⟩))
  go_ret2
  exact ⟨by first | rfl | (simp; done) | (simp [*]; done), by repeat (first | exact Drawn0.refl _ | apply Drawn0.step)⟩

 subst c5
 rw [if_pos rfl] at H
 obtain ⟨t306, A6, H⟩ := xO H
 (try dsimp only at H)
 by_cases c7 : t306 = true
 rotate_left
 ·replace c7 := Bool.eq_false_iff.mpr c7
  subst c7
  rw [if_neg (show ¬ (false = true) by decide)] at H
  simp only [Option.some.injEq, Prod.mk.injEq] at H
  obtain ⟨rfl, rfl⟩ := H
  go_enter Try.func22, Try.ntmps22
  go_wp2_with (first | (refine xG (some 9) Try.func223 #[.int .i64 a0, .int .i64 0, .int .i64 64] ?_; (with_reducible refine (impl_in.calls a0 0 64 true _ A4.out).mono ?_); rintro e w' ⟨rfl, ⟨nd, rfl⟩⟩; refine ⟨_, rfl, ?_⟩) | (go_at_call 224; (with_reducible refine (impl_isRatio.calls a1 a2 false _ A6.out).mono ?_); rintro e w' ⟨rfl, ⟨nd, rfl⟩⟩))
  go_ret2
  exact ⟨by first | rfl | (simp; done) | (simp [*]; done), by repeat (first | exact Drawn0.refl _ | apply Drawn0.step)⟩
 subst c7
 rw [if_pos rfl] at H
 obtain ⟨t307, A8, H⟩ := xO H
 (try dsimp only at H)
 simp only [Option.some.injEq, Prod.mk.injEq] at H
 obtain ⟨rfl, rfl⟩ := H
 go_enter Try.func22, Try.ntmps22
 go_wp2_with (first | (refine xG (some 9) Try.func223 #[.int .i64 a0, .int .i64 0, .int .i64 64] ?_; (with_reducible refine (impl_in.calls a0 0 64 true _ A4.out).mono ?_); rintro e w' ⟨rfl, ⟨nd, rfl⟩⟩; refine ⟨_, rfl, ?_⟩) | (go_at_call 224; (with_reducible refine (impl_isRatio.calls a1 a2 true _ A6.out).mono ?_); rintro e w' ⟨rfl, ⟨nd, rfl⟩⟩) | (refine xG (some 20) Try.func225 #[.int .i64 a0, .int .i64 a1, .int .i64 a2] ?_; (with_reducible refine (impl_lengthAfter.calls a0 a1 a2 t307 _ A8.out).mono ?_); rintro e w' ⟨rfl, ⟨nd, rfl⟩⟩; refine ⟨_, rfl, ?_⟩))
 go_ret2
 exact ⟨by first | rfl | (simp; done) | (simp [*]; done), by repeat (first | exact Drawn0.refl _ | apply Drawn0.step)⟩
/-! ### impl_SourceOf: function 23 -/
def impl_SourceOf.f (a0 : Int) (a1 : Int) (a2 : Int) : Option (Int × Int × Bool) := (impl_in.f a0 0 1000).bind fun t308 => (if t308 = true then ((impl_isRatio.f a1 a2).bind fun t309 => (if t309 = true then (if a1 = 0 then (none) else (some (wrap64 (Int.tdiv (wrap64 (a0 * a2)) a1), Int.tmod (wrap64 (a0 * a2)) a1, true))) else (some (0, 0, false)))) else (some (0, 0, false)))
set_option maxHeartbeats 8000000 in
set_option maxRecDepth 100000 in
theorem impl_SourceOf.calls (a0 : Int) (a1 : Int) (a2 : Int) (r1 : Int) (r2 : Int) (r3 : Bool) (w : World) (h : impl_SourceOf.f a0 a1 a2 = some (r1, r2, r3)) :
  Calls Try.prog 23 #[.int .i64 a0, .int .i64 a1, .int .i64 a2] w fun e w' => e = .returned (.tuple #[.int .i64 r1, .int .i64 r2, .bool r3]) ∧ Drawn0 w w' := by
 have H : ((impl_in.f a0 0 1000).bind fun t308 => (if t308 = true then ((impl_isRatio.f a1 a2).bind fun t309 => (if t309 = true then (if a1 = 0 then (none) else (some (wrap64 (Int.tdiv (wrap64 (a0 * a2)) a1), Int.tmod (wrap64 (a0 * a2)) a1, true))) else (some (0, 0, false)))) else (some (0, 0, false)))) = some (r1, r2, r3) := h
 clear h
 obtain ⟨t308, A4, H⟩ := xO H
 (try dsimp only at H)
 by_cases c5 : t308 = true
 rotate_left
 ·replace c5 := Bool.eq_false_iff.mpr c5
  subst c5
  rw [if_neg (show ¬ (false = true) by decide)] at H
  simp only [Option.some.injEq, Prod.mk.injEq] at H
  obtain ⟨rfl, rfl, rfl⟩ := H
  go_enter Try.func23, Try.ntmps23
  go_wp2_with (first | (go_at_call 223; (with_reducible refine (impl_in.calls a0 0 1000 false _ A4.out).mono ?_); rintro e w' ⟨rfl, ⟨nd, rfl⟩⟩; (try exact xD)))
  repeat (go_quiet (first | (go_at_call 223; (with_reducible refine (impl_in.calls a0 0 1000 false _ A4.out).mono ?_); rintro e w' ⟨rfl, ⟨nd, rfl⟩⟩; (try exact xD))); try go_wp2_with (first | (go_at_call 223; (with_reducible refine (impl_in.calls a0 0 1000 false _ A4.out).mono ?_); rintro e w' ⟨rfl, ⟨nd, rfl⟩⟩; (try exact xD))))
  go_ret3
  exact ⟨by first | rfl | (simp; done) | (simp [*]; done), by repeat (first | exact Drawn0.refl _ | apply Drawn0.step)⟩

 subst c5
 rw [if_pos rfl] at H
 obtain ⟨t309, A6, H⟩ := xO H
 (try dsimp only at H)
 by_cases c7 : t309 = true
 rotate_left
 ·replace c7 := Bool.eq_false_iff.mpr c7
  subst c7
  rw [if_neg (show ¬ (false = true) by decide)] at H
  simp only [Option.some.injEq, Prod.mk.injEq] at H
  obtain ⟨rfl, rfl, rfl⟩ := H
  go_enter Try.func23, Try.ntmps23
  go_wp2_with (first | (go_at_call 223; (with_reducible refine (impl_in.calls a0 0 1000 true _ A4.out).mono ?_); rintro e w' ⟨rfl, ⟨nd, rfl⟩⟩; (try exact xD)) | (go_at_call 224; (with_reducible refine (impl_isRatio.calls a1 a2 false _ A6.out).mono ?_); rintro e w' ⟨rfl, ⟨nd, rfl⟩⟩; (try exact xD)))
  repeat (go_quiet (first | (go_at_call 223; (with_reducible refine (impl_in.calls a0 0 1000 true _ A4.out).mono ?_); rintro e w' ⟨rfl, ⟨nd, rfl⟩⟩; (try exact xD)) | (go_at_call 224; (with_reducible refine (impl_isRatio.calls a1 a2 false _ A6.out).mono ?_); rintro e w' ⟨rfl, ⟨nd, rfl⟩⟩; (try exact xD))); try go_wp2_with (first | (go_at_call 223; (with_reducible refine (impl_in.calls a0 0 1000 true _ A4.out).mono ?_); rintro e w' ⟨rfl, ⟨nd, rfl⟩⟩; (try exact xD)) | (go_at_call 224; (with_reducible refine (impl_isRatio.calls a1 a2 false _ A6.out).mono ?_); rintro e w' ⟨rfl, ⟨nd, rfl⟩⟩; (try exact xD))))
  go_ret3
  exact ⟨by first | rfl | (simp; done) | (simp [*]; done), by repeat (first | exact Drawn0.refl _ | apply Drawn0.step)⟩
 subst c7
 rw [if_pos rfl] at H
 by_cases c8 : a1 = 0
 ·rw [if_pos c8] at H
  exact absurd H (by simp)
 rw [if_neg c8] at H
 have c8b0 : (a1 == 0) = false := beq_eq_false_iff_ne.mpr c8
 have c8b1 : (a1 != 0) = true := bne_iff_ne.mpr c8
 simp only [Option.some.injEq, Prod.mk.injEq] at H
 obtain ⟨rfl, rfl, rfl⟩ := H
 go_enter Try.func23, Try.ntmps23
 go_wp2_with (first | (go_at_call 223; (with_reducible refine (impl_in.calls a0 0 1000 true _ A4.out).mono ?_); rintro e w' ⟨rfl, ⟨nd, rfl⟩⟩; (try exact xD)) | (go_at_call 224; (with_reducible refine (impl_isRatio.calls a1 a2 true _ A6.out).mono ?_); rintro e w' ⟨rfl, ⟨nd, rfl⟩⟩; (try exact xD)))
 repeat (go_quiet (first | (go_at_call 223; (with_reducible refine (impl_in.calls a0 0 1000 true _ A4.out).mono ?_); rintro e w' ⟨rfl, ⟨nd, rfl⟩⟩; (try exact xD)) | (go_at_call 224; (with_reducible refine (impl_isRatio.calls a1 a2 true _ A6.out).mono ?_); rintro e w' ⟨rfl, ⟨nd, rfl⟩⟩; (try exact xD))); try go_wp2_with (first | (go_at_call 223; (with_reducible refine (impl_in.calls a0 0 1000 true _ A4.out).mono ?_); rintro e w' ⟨rfl, ⟨nd, rfl⟩⟩; (try exact xD)) | (go_at_call 224; (with_reducible refine (impl_isRatio.calls a1 a2 true _ A6.out).mono ?_); rintro e w' ⟨rfl, ⟨nd, rfl⟩⟩; (try exact xD))))
 go_ret3
 exact ⟨by first | rfl | (simp; done) | (simp [*]; done), by repeat (first | exact Drawn0.refl _ | apply Drawn0.step)⟩
/-! ### impl_size: function 272 -/
def impl_size.f (a0 : Int) : Option (Int) := some (mx a0 (wrap64 (-a0)))
set_option maxHeartbeats 8000000 in
set_option maxRecDepth 100000 in
theorem impl_size.calls (a0 : Int) (r : Int) (w : World) (h : impl_size.f a0 = some r) :
  Calls Try.prog 272 #[.int .i64 a0] w fun e w' => e = .returned (.int .i64 r) ∧ Below w.heap.size w w' := by
 have HB := Aside0.mk (Below.refl w.heap.size w)
 have H : (some (mx a0 (wrap64 (-a0)))) = some r := h
 clear h
 obtain ⟨ji2, hji2⟩ : ∃ j_ : Int, (mx a0 (wrap64 (-a0))) = j_ := ⟨_, rfl⟩
 replace H : (some ji2) = some r := by first | (rw [hji2] at H; exact H) | (simp only [hji2] at H ⊢; exact H)
 have hji2_ : (if a0 < (wrap64 (-a0)) then (wrap64 (-a0)) else a0) = ji2 := hji2
 obtain rfl := Option.some.inj H
 go_enter Try.func272, Try.ntmps272
 go_wp2
 go_ret
 exact ⟨by first | rfl | (simp [errW_none, errW_some] <;> rfl) | (simp only [← hji2]; first | rfl | (simp [errW_none, errW_some] <;> rfl)) | (simp [*, errW_none, errW_some] <;> rfl), xB HB.out⟩

/-! ### impl_gcd: function 226 -/
def impl_gcd.l0 : Nat → Int → Int → Option (Int)
 | 0, _, _ => none
 | k + 1, x0, x1 => if x1 = 0 then (some x0) else (impl_gcd.l0 k x1 (Int.tmod x0 x1))
def impl_gcd.f (k : Nat) (a0 : Int) (a1 : Int) : Option (Int) := (impl_size.f a0).bind fun t310 => ((impl_size.f a1).bind fun t311 => (impl_gcd.l0 k t310 t311))
theorem impl_gcd.mono_l : ∀ k, (∀ y0 y1, LeO (impl_gcd.l0 k y0 y1) (impl_gcd.l0 (k + 1) y0 y1))
 | 0 => fun _ _ r h => by simp [impl_gcd.l0] at h
 | k + 1 => by
  have ih0 := impl_gcd.mono_l k
  intros
  unfold impl_gcd.l0
  exact xM
theorem impl_gcd.mono : ∀ a0 a1 k, LeO (impl_gcd.f k a0 a1) (impl_gcd.f (k + 1) a0 a1) := by
 intro a0 a1 k
 have ih0 := impl_gcd.mono_l k
 unfold impl_gcd.f
 exact xM
set_option maxHeartbeats 8000000 in
set_option maxRecDepth 100000 in
theorem impl_gcd.calls (k : Nat) (a0 : Int) (a1 : Int) (r : Int) (w : World) (h : impl_gcd.f k a0 a1 = some r) :
  Calls Try.prog 226 #[.int .i64 a0, .int .i64 a1] w fun e w' => e = .returned (.int .i64 r) ∧ Below w.heap.size w w' := by
 have HB := Aside0.mk (Below.refl w.heap.size w)
 have H : ((impl_size.f a0).bind fun t310 => ((impl_size.f a1).bind fun t311 => (impl_gcd.l0 k t310 t311))) = some r := h
 clear h
 obtain ⟨t310, A3, H⟩ := xO H
 (try dsimp only at H)
 obtain ⟨t311, A4, H⟩ := xO H
 (try dsimp only at H)
 have H' := Aside0.mk H
 clear H
 go_enter Try.func226, Try.ntmps226
 go_wp2_with (first | (go_at_call 272; (with_reducible refine (impl_size.calls a0 t310 _ A3.out).mono ?_); rintro e w5 ⟨rfl, hb⟩; replace HB := Aside0.mk (below_step (xB HB.out) hb); (try clear hb); (try clear hb2); (try clear hk); (try clear hi)) | (go_at_call 272; (with_reducible refine (impl_size.calls a1 t311 _ A4.out).mono ?_); rintro e w6 ⟨rfl, hb⟩; replace HB := Aside0.mk (below_step (xB HB.out) hb); (try clear hb); (try clear hb2); (try clear hk); (try clear hi)))
 repeat (go_quiet (first | (go_at_call 272; (with_reducible refine (impl_size.calls a0 t310 _ A3.out).mono ?_); rintro e w5 ⟨rfl, hb⟩; replace HB := Aside0.mk (below_step (xB HB.out) hb); (try clear hb); (try clear hb2); (try clear hk); (try clear hi)) | (go_at_call 272; (with_reducible refine (impl_size.calls a1 t311 _ A4.out).mono ?_); rintro e w6 ⟨rfl, hb⟩; replace HB := Aside0.mk (below_step (xB HB.out) hb); (try clear hb); (try clear hb2); (try clear hk); (try clear hi))); try go_wp2_with (first | (go_at_call 272; (with_reducible refine (impl_size.calls a0 t310 _ A3.out).mono ?_); rintro e w5 ⟨rfl, hb⟩; replace HB := Aside0.mk (below_step (xB HB.out) hb); (try clear hb); (try clear hb2); (try clear hk); (try clear hi)) | (go_at_call 272; (with_reducible refine (impl_size.calls a1 t311 _ A4.out).mono ?_); rintro e w6 ⟨rfl, hb⟩; replace HB := Aside0.mk (below_step (xB HB.out) hb); (try clear hb); (try clear hb2); (try clear hk); (try clear hi))))
 go_loopg [0, 1] k (fun kq v0 v1 w' => ∃ (x0_1 : Int) (x1_1 : Int), v0 = .int .i64 x0_1 ∧ v1 = .int .i64 x1_1 ∧ Aside0 (impl_gcd.l0 kq x0_1 x1_1 = some r) ∧ Aside0 (kq ≤ k) ∧ Aside0 (Below w.heap.size w w'))
 case atStart => exact ⟨(t310), (t311), (by first | rfl | (simp; done) | (simp [*]; done)), (by first | rfl | (simp; done) | (simp [*]; done)), H', ⟨Nat.le_refl _⟩, ⟨xB HB.out⟩⟩
 case round =>
  clear H'
  obtain ⟨x0_1, x1_1, rfl, rfl, HA, HK1, HB⟩ := hrel
  cases gk with
  | zero => exact absurd HA.out (by simp [impl_gcd.l0])
  | succ k1 =>
   have H := HA.out
   clear HA
   simp only [impl_gcd.l0] at H
   by_cases c7 : x1_1 = 0
   ·rw [if_pos c7] at H
    have c7b0 : (x1_1 == 0) = true := beq_iff_eq.mpr c7
    have c7b1 : (x1_1 != 0) = false := bne_eq_false_iff_eq.mpr c7
    clear c7
    obtain rfl := Option.some.inj H
    go_wp2
    repeat (go_quiet (fail); try go_wp2)
    go_ret
    exact ⟨by first | rfl | (simp [errW_none, errW_some] <;> rfl) | (simp [*, errW_none, errW_some] <;> rfl), xB HB.out⟩
   rw [if_neg c7] at H
   have c7b0 : (x1_1 == 0) = false := beq_eq_false_iff_ne.mpr c7
   have c7b1 : (x1_1 != 0) = true := bne_iff_ne.mpr c7
   have H' := Aside0.mk H
   clear H
   go_wp2
   repeat (go_quiet (fail); try go_wp2)
   go_roundg k1
   case measure => have := HK1.out; omega
   case rel => exact ⟨(x1_1), (Int.tmod x0_1 x1_1), (by first | rfl | (simp; done) | (simp [*]; done)), (by first | rfl | (simp; done) | (simp [*]; done)), H', ⟨by have := HK1.out; omega⟩, ⟨xB HB.out⟩⟩

/-! ### impl_LeastRatio: function 24 -/
def impl_LeastRatio.f (k : Nat) (a0 : Int) (a1 : Int) : Option (Int × Int × Bool) := (impl_isRatio.f a0 a1).bind fun t312 => (if t312 = true then ((impl_gcd.f k a0 a1).bind fun t313 => (if t313 = 0 then (none) else (some (wrap64 (Int.tdiv a0 t313), wrap64 (Int.tdiv a1 t313), true)))) else (some (0, 0, false)))
theorem impl_LeastRatio.mono : ∀ a0 a1 k, LeO (impl_LeastRatio.f k a0 a1) (impl_LeastRatio.f (k + 1) a0 a1) := by
 intro a0 a1 k
 have m0 := @impl_gcd.mono
 unfold impl_LeastRatio.f
 exact xM
set_option maxHeartbeats 8000000 in
set_option maxRecDepth 100000 in
theorem impl_LeastRatio.calls (k : Nat) (a0 : Int) (a1 : Int) (r1 : Int) (r2 : Int) (r3 : Bool) (w : World) (h : impl_LeastRatio.f k a0 a1 = some (r1, r2, r3)) :
  Calls Try.prog 24 #[.int .i64 a0, .int .i64 a1] w fun e w' => e = .returned (.tuple #[.int .i64 r1, .int .i64 r2, .bool r3]) ∧ Below w.heap.size w w' := by
 have HB := Aside0.mk (Below.refl w.heap.size w)
 have H : ((impl_isRatio.f a0 a1).bind fun t312 => (if t312 = true then ((impl_gcd.f k a0 a1).bind fun t313 => (if t313 = 0 then (none) else (some (wrap64 (Int.tdiv a0 t313), wrap64 (Int.tdiv a1 t313), true)))) else (some (0, 0, false)))) = some (r1, r2, r3) := h
 clear h
 obtain ⟨t312, A3, H⟩ := xO H
 (try dsimp only at H)
 by_cases c4 : t312 = true
 rotate_left
 ·replace c4 := Bool.eq_false_iff.mpr c4
  subst c4
  rw [if_neg (show ¬ (false = true) by decide)] at H
  simp only [Option.some.injEq, Prod.mk.injEq] at H
  obtain ⟨rfl, rfl, rfl⟩ := H
  go_enter Try.func24, Try.ntmps24
  go_wp2_with (first | (go_at_call 224; (with_reducible refine (impl_isRatio.calls a0 a1 false _ A3.out).mono ?_); rintro e w' ⟨rfl, ⟨nd, rfl⟩⟩; (try exact xD)))
  repeat (go_quiet (first | (go_at_call 224; (with_reducible refine (impl_isRatio.calls a0 a1 false _ A3.out).mono ?_); rintro e w' ⟨rfl, ⟨nd, rfl⟩⟩; (try exact xD))); try go_wp2_with (first | (go_at_call 224; (with_reducible refine (impl_isRatio.calls a0 a1 false _ A3.out).mono ?_); rintro e w' ⟨rfl, ⟨nd, rfl⟩⟩; (try exact xD))))
  go_ret3
  exact ⟨by first | rfl | (simp [errW_none, errW_some] <;> rfl) | (simp [*, errW_none, errW_some] <;> rfl), xB HB.out⟩

 subst c4
 rw [if_pos rfl] at H
 obtain ⟨t313, A5, H⟩ := xO H
 (try dsimp only at H)
 by_cases c6 : t313 = 0
 ·rw [if_pos c6] at H
  exact absurd H (by simp)
 rw [if_neg c6] at H
 have c6b0 : (t313 == 0) = false := beq_eq_false_iff_ne.mpr c6
 have c6b1 : (t313 != 0) = true := bne_iff_ne.mpr c6
 simp only [Option.some.injEq, Prod.mk.injEq] at H
 obtain ⟨rfl, rfl, rfl⟩ := H
 go_enter Try.func24, Try.ntmps24
 go_wp2_with (first | (go_at_call 224; (with_reducible refine (impl_isRatio.calls a0 a1 true _ A3.out).mono ?_); rintro e w' ⟨rfl, ⟨nd, rfl⟩⟩; (try exact xD)) | (go_at_call 226; (with_reducible refine (impl_gcd.calls k a0 a1 t313 _ A5.out).mono ?_); rintro e w7 ⟨rfl, hb⟩; replace HB := Aside0.mk (below_step (xB HB.out) hb); (try clear hb); (try clear hb2); (try clear hk); (try clear hi)))
 repeat (go_quiet (first | (go_at_call 224; (with_reducible refine (impl_isRatio.calls a0 a1 true _ A3.out).mono ?_); rintro e w' ⟨rfl, ⟨nd, rfl⟩⟩; (try exact xD)) | (go_at_call 226; (with_reducible refine (impl_gcd.calls k a0 a1 t313 _ A5.out).mono ?_); rintro e w7 ⟨rfl, hb⟩; replace HB := Aside0.mk (below_step (xB HB.out) hb); (try clear hb); (try clear hb2); (try clear hk); (try clear hi))); try go_wp2_with (first | (go_at_call 224; (with_reducible refine (impl_isRatio.calls a0 a1 true _ A3.out).mono ?_); rintro e w' ⟨rfl, ⟨nd, rfl⟩⟩; (try exact xD)) | (go_at_call 226; (with_reducible refine (impl_gcd.calls k a0 a1 t313 _ A5.out).mono ?_); rintro e w7 ⟨rfl, hb⟩; replace HB := Aside0.mk (below_step (xB HB.out) hb); (try clear hb); (try clear hb2); (try clear hk); (try clear hi))))
 go_ret3
 exact ⟨by first | rfl | (simp [errW_none, errW_some] <;> rfl) | (simp [*, errW_none, errW_some] <;> rfl), xB HB.out⟩
/-! ### spec_DrawLengthAfter: function 25 -/
def spec_DrawLengthAfter.f (l0 : List Int) : Option (Int × Int × Int) := (spec_l1Cur_ratio.f l0 0 0).bind fun bt315 => ((spec_l1Cur_one.f l0 bt315.2.2.1 bt315.2.2.2 10).bind fun bt319 => (if bt319.1 = true then ((spec_l1Cur_among.f l0 bt319.2.1 bt319.2.2 (([(-1), 0, 64, 65] : List Int))).bind fun bt325 => (some (bt325.1, bt315.1, bt315.2.1))) else ((spec_l1Cur_pick.f l0 bt319.2.1 bt319.2.2 20).bind fun bt328 => (some (bt328.1, bt315.1, bt315.2.1)))))
set_option maxHeartbeats 8000000 in
set_option maxRecDepth 100000 in
theorem spec_DrawLengthAfter.calls (A0 : Option Addr) (c0 : Nat) (l0 : List Int) (r1 : Int) (r2 : Int) (r3 : Int) (w : World) (hr0 : Kd.C (Kd.int .u8) w A0 l0.length l0) (hc0 : l0.length ≤ c0) (h : spec_DrawLengthAfter.f l0 = some (r1, r2, r3)) :
  Calls Try.prog 25 #[.slice A0 l0.length c0] w fun e w' => e = .returned (.tuple #[.int .i64 r1, .int .i64 r2, .int .i64 r3]) ∧ Below w.heap.size w w' := by
 have hu129 := Try.underlying129
 have HR0 := Aside0.mk hr0
 have HC0 := Aside0.mk hc0
 clear hr0 hc0
 have HB := Aside0.mk (Below.refl w.heap.size w)
 have H : ((spec_l1Cur_ratio.f l0 0 0).bind fun bt315 => ((spec_l1Cur_one.f l0 bt315.2.2.1 bt315.2.2.2 10).bind fun bt319 => (if bt319.1 = true then ((spec_l1Cur_among.f l0 bt319.2.1 bt319.2.2 (([(-1), 0, 64, 65] : List Int))).bind fun bt325 => (some (bt325.1, bt315.1, bt315.2.1))) else ((spec_l1Cur_pick.f l0 bt319.2.1 bt319.2.2 20).bind fun bt328 => (some (bt328.1, bt315.1, bt315.2.1)))))) = some (r1, r2, r3) := h
 clear h
 replace H := Option.bind_eq_some_iff.mp H
 obtain ⟨⟨t315, t316, t317, t318⟩, A20, H⟩ := H
 (try dsimp only at H)
 have A2 := Aside0.mk A20
 clear A20
 replace H := Option.bind_eq_some_iff.mp H
 obtain ⟨⟨t319, t320, t321⟩, A30, H⟩ := H
 (try dsimp only at H)
 have A3 := Aside0.mk A30
 clear A30
 by_cases c4 : t319 = true
 rotate_left
 ·replace c4 := Bool.eq_false_iff.mpr c4
  subst c4
  rw [if_neg (show ¬ (false = true) by decide)] at H
  replace H := Option.bind_eq_some_iff.mp H
  obtain ⟨⟨t328, t329, t330⟩, A130, H⟩ := H
  (try dsimp only at H)
  have A13 := Aside0.mk A130
  clear A130
  simp only [Option.some.injEq, Prod.mk.injEq] at H
  obtain ⟨rfl, rfl, rfl⟩ := H
  go_enter Try.func25, Try.ntmps25
  go_wp2_with (first | (refine xV 10 #[.slice A0 l0.length c0, .int .i64 0, .int .u64 0] 129 ?_; intro gb314 hg w14 hbox hb; have HI314 := Aside0.mk ((show IsS129 w _ gb314 l0 0 0 from ⟨_, _, hbox, (by rw [hg]; exact (below_size (xB HB.out)) : w.heap.size ≤ gb314), HR0.out⟩)); replace HB := Aside0.mk (below_step (xB HB.out) hb); clear hb hbox hg) | (refine xG (some 13) Try.func213 #[.pointer (some ⟨gb314, 0, none⟩)] ?_; (with_reducible refine (spec_l1Cur_ratio.calls gb314 l0 0 0 t315 t316 t317 t318 w _ ?side1 ?side2 A2.out).mono ?_); (case side1 => repeat (first | (with_reducible first | exact HI314.out | apply IsS129.alloc | apply IsS129.drewN | apply IsS129.drew | apply IsS129.set_1 | apply IsS129.set_2) | exact HI314.out)); (case side2 => repeat (first | (with_reducible first | exact HB.out | apply below_alloc | apply pw_below_drewN | apply below_drew1 | refine below_set ?_ (IsS129.ge HI314.out)) | exact HB.out)); rintro e w15 ⟨rfl, hi, hb, hk⟩; refine ⟨_, rfl, ?_⟩; replace HB := Aside0.mk (hb); replace HI314 := Aside0.mk (hi); (try clear hb); (try clear hb2); (try clear hk); (try clear hi)) | (refine xG (some 17) Try.func227 #[.pointer (some ⟨gb314, 0, none⟩), .int .i64 10] ?_; (with_reducible refine (spec_l1Cur_one.calls gb314 l0 t317 t318 10 false t320 t321 w _ ?side1 ?side2 A3.out).mono ?_); (case side1 => repeat (first | (with_reducible first | exact HI314.out | apply IsS129.alloc | apply IsS129.drewN | apply IsS129.drew | apply IsS129.set_1 | apply IsS129.set_2) | exact HI314.out)); (case side2 => repeat (first | (with_reducible first | exact HB.out | apply below_alloc | apply pw_below_drewN | apply below_drew1 | refine below_set ?_ (IsS129.ge HI314.out)) | exact HB.out)); rintro e w16 ⟨rfl, hi, hb, hk⟩; refine ⟨_, rfl, ?_⟩; replace HB := Aside0.mk (hb); replace HI314 := Aside0.mk (hi); (try clear hb); (try clear hb2); (try clear hk); (try clear hi)) | (refine xG (some 24) Try.func229 #[.pointer (some ⟨gb314, 0, none⟩), .int .i64 20] ?_; (with_reducible refine (spec_l1Cur_pick.calls gb314 l0 t320 t321 20 t328 t329 t330 w _ ?side1 ?side2 A13.out).mono ?_); (case side1 => repeat (first | (with_reducible first | exact HI314.out | apply IsS129.alloc | apply IsS129.drewN | apply IsS129.drew | apply IsS129.set_1 | apply IsS129.set_2) | exact HI314.out)); (case side2 => repeat (first | (with_reducible first | exact HB.out | apply below_alloc | apply pw_below_drewN | apply below_drew1 | refine below_set ?_ (IsS129.ge HI314.out)) | exact HB.out)); rintro e w17 ⟨rfl, hi, hb, hk⟩; refine ⟨_, rfl, ?_⟩; replace HB := Aside0.mk (hb); replace HI314 := Aside0.mk (hi); (try clear hb); (try clear hb2); (try clear hk); (try clear hi)))
  go_ret3
  exact ⟨by first | rfl | (simp [errW_none, errW_some] <;> rfl) | (simp [*, errW_none, errW_some] <;> rfl), by repeat (first | (with_reducible first | exact HB.out | apply below_alloc | apply pw_below_drewN | apply below_drew1 | refine below_set ?_ (IsS129.ge HI314.out)) | exact HB.out)⟩

 subst c4
 rw [if_pos rfl] at H
 obtain ⟨y322, hy322⟩ : ∃ y_ : List Int, y_ = (([(-1), 0, 64, 65] : List Int)) := ⟨_, rfl⟩
 replace H : ((spec_l1Cur_among.f l0 t320 t321 y322).bind fun bt325 => (some (bt325.1, t315, t316))) = some (r1, r2, r3) := by first | (rw [hy322]; with_reducible exact H) | (have H2_ := (Option.bind_some _ _).symm.trans H; rw [hy322]; with_reducible exact H2_) | (have H2_ := (Option.bind_some _ _).symm.trans H; with_reducible exact H2_) | with_reducible exact H | (rw [hy322]; exact H) | exact H
 have Ny322 := Aside0.mk hy322
 clear hy322
 replace H := Option.bind_eq_some_iff.mp H
 obtain ⟨⟨t325, t326, t327⟩, A50, H⟩ := H
 (try dsimp only at H)
 have A5 := Aside0.mk A50
 clear A50
 simp only [Option.some.injEq, Prod.mk.injEq] at H
 obtain ⟨rfl, rfl, rfl⟩ := H
 go_enter Try.func25, Try.ntmps25
 go_wp2_with (first | (refine xV 10 #[.slice A0 l0.length c0, .int .i64 0, .int .u64 0] 129 ?_; intro gb314 hg w6 hbox hb; have HI314 := Aside0.mk ((show IsS129 w _ gb314 l0 0 0 from ⟨_, _, hbox, (by rw [hg]; exact (below_size (xB HB.out)) : w.heap.size ≤ gb314), HR0.out⟩)); replace HB := Aside0.mk (below_step (xB HB.out) hb); clear hb hbox hg) | (refine xG (some 13) Try.func213 #[.pointer (some ⟨gb314, 0, none⟩)] ?_; (with_reducible refine (spec_l1Cur_ratio.calls gb314 l0 0 0 t315 t316 t317 t318 w _ ?side1 ?side2 A2.out).mono ?_); (case side1 => repeat (first | (with_reducible first | exact HI314.out | apply IsS129.alloc | apply IsS129.drewN | apply IsS129.drew | apply IsS129.set_1 | apply IsS129.set_2) | exact HI314.out)); (case side2 => repeat (first | (with_reducible first | exact HB.out | apply below_alloc | apply pw_below_drewN | apply below_drew1 | refine below_set ?_ (IsS129.ge HI314.out)) | exact HB.out)); rintro e w7 ⟨rfl, hi, hb, hk⟩; refine ⟨_, rfl, ?_⟩; replace HB := Aside0.mk (hb); replace HI314 := Aside0.mk (hi); (try clear hb); (try clear hb2); (try clear hk); (try clear hi)) | (refine xG (some 17) Try.func227 #[.pointer (some ⟨gb314, 0, none⟩), .int .i64 10] ?_; (with_reducible refine (spec_l1Cur_one.calls gb314 l0 t317 t318 10 true t320 t321 w _ ?side1 ?side2 A3.out).mono ?_); (case side1 => repeat (first | (with_reducible first | exact HI314.out | apply IsS129.alloc | apply IsS129.drewN | apply IsS129.drew | apply IsS129.set_1 | apply IsS129.set_2) | exact HI314.out)); (case side2 => repeat (first | (with_reducible first | exact HB.out | apply below_alloc | apply pw_below_drewN | apply below_drew1 | refine below_set ?_ (IsS129.ge HI314.out)) | exact HB.out)); rintro e w8 ⟨rfl, hi, hb, hk⟩; refine ⟨_, rfl, ?_⟩; replace HB := Aside0.mk (hb); replace HI314 := Aside0.mk (hi); (try clear hb); (try clear hb2); (try clear hk); (try clear hi)) | ((with_reducible refine gate_dst (N := 19) rfl ?_); refine Kd.R_lit (Kd.int .i64) _ 3 ?hg (N := 19) ?hd (xs := ([(-1), 0, 64, 65] : List Int)) (inner := [.int .i64 (-1), .int .i64 0, .int .i64 64, .int .i64 65]) (ok := fun _ => True) (okp := fun _ => True) ?hr ?hp (fun _ hk => hk) trivial (Below.refl _ _) (Nat.le_refl _) (by simp) ?_; (case hd => rfl); (case hg => rfl); (case hr => first | (go_simp; done) | (go_simp; rfl)); (case hp => exact (Reps.one (show Kd.M (Kd.int .i64) _ _ _ (-1) [.int .i64 (-1)] from rfl) (Reps.one (show Kd.M (Kd.int .i64) _ _ _ 0 [.int .i64 0] from rfl) (Reps.one (show Kd.M (Kd.int .i64) _ _ _ 64 [.int .i64 64] from rfl) (Reps.one (show Kd.M (Kd.int .i64) _ _ _ 65 [.int .i64 65] from rfl) (Reps.none _ _)))))); intro v323 w9 ho10 hb hg_ hnew_; clear hg_ hnew_; (first | rw [← Ny322.out] at ho10 | (simp only [Int.reduceToNat] at ho10; rw [← Ny322.out] at ho10)); have HO324 := Aside0.mk (Kd.R_lower ho10 (below_size (by repeat (first | (with_reducible first | exact HB.out | apply below_alloc | apply pw_below_drewN | apply below_drew1 | refine below_set ?_ (IsS129.ge HI314.out)) | exact HB.out)))); replace HB := Aside0.mk (below_step (by repeat (first | (with_reducible first | exact HB.out | apply below_alloc | apply pw_below_drewN | apply below_drew1 | refine below_set ?_ (IsS129.ge HI314.out)) | exact HB.out)) hb); replace HI314 := Aside0.mk (IsS129.below (by repeat (first | (with_reducible first | exact HI314.out | apply IsS129.alloc | apply IsS129.drewN | apply IsS129.drew | apply IsS129.set_1 | apply IsS129.set_2) | exact HI314.out)) hb); clear hb ho10; obtain ⟨Ao11, co11, eo11⟩ := Kd.R_slice HO324.out; subst eo11) | (refine xG (some 20) Try.func228 #[.pointer (some ⟨gb314, 0, none⟩), .slice Ao11 y322.length co11] ?_; (with_reducible refine (spec_l1Cur_among.calls gb314 l0 t320 t321 _ _ y322 t325 t326 t327 w _ ?side1 ?side2 ?side3 ?side4 ?side5 A5.out).mono ?_); (case side1 => repeat (first | (with_reducible first | exact HI314.out | apply IsS129.alloc | apply IsS129.drewN | apply IsS129.drew | apply IsS129.set_1 | apply IsS129.set_2) | exact HI314.out)); (case side2 => repeat (first | (with_reducible first | exact HB.out | apply below_alloc | apply pw_below_drewN | apply below_drew1 | refine below_set ?_ (IsS129.ge HI314.out)) | exact HB.out)); (case side3 => exact xC ((Kd.R_reads' HO324.out).2.2)); (case side4 => exact (Kd.R_reads' HO324.out).2.1); (case side5 => exact far_slice (IsS129.own_ne HI314.out HO324.out (by decide))); rintro e w12 ⟨rfl, hi, hb, hk⟩; refine ⟨_, rfl, ?_⟩; replace HO324 := Aside0.mk (Kd.R_mono (Kd.R_keep (IsS129.apart (show IsS129 w _ gb314 l0 t320 t321 from by repeat (first | (with_reducible first | exact HI314.out | apply IsS129.alloc | apply IsS129.drewN | apply IsS129.drew | apply IsS129.set_1 | apply IsS129.set_2) | exact HI314.out)) (xR HO324.out) (by decide)) hk (fun _ h => h.2)) (fun _ h => h.1)); replace HB := Aside0.mk (hb); replace HI314 := Aside0.mk (hi); (try clear hb); (try clear hb2); (try clear hk); (try clear hi)))
 go_ret3
 exact ⟨by first | rfl | (simp [errW_none, errW_some] <;> rfl) | (simp [*, errW_none, errW_some] <;> rfl), by repeat (first | (with_reducible first | exact HB.out | apply below_alloc | apply pw_below_drewN | apply below_drew1 | refine below_set ?_ (IsS129.ge HI314.out)) | exact HB.out)⟩
/-! ### spec_LengthAfter: function 26 -/
def spec_LengthAfter.f (a0 : Int) (a1 : Int) (a2 : Int) : Option (Int × Bool) := (spec_l1In.f a0 0 64).bind fun t331 => (if t331 = true then ((spec_rsRatio.f a1 a2).bind fun t332 => (if t332 = true then ((spec_rsLength.f a0 a1 a2).bind fun t333 => (some (t333, true))) else (some (0, false)))) else (some (0, false)))
set_option maxHeartbeats 8000000 in
set_option maxRecDepth 100000 in
theorem spec_LengthAfter.calls (a0 : Int) (a1 : Int) (a2 : Int) (r1 : Int) (r2 : Bool) (w : World) (h : spec_LengthAfter.f a0 a1 a2 = some (r1, r2)) :
  Calls Try.prog 26 #[.int .i64 a0, .int .i64 a1, .int .i64 a2] w fun e w' => e = .returned (.tuple #[.int .i64 r1, .bool r2]) ∧ Drawn0 w w' := by
 have H : ((spec_l1In.f a0 0 64).bind fun t331 => (if t331 = true then ((spec_rsRatio.f a1 a2).bind fun t332 => (if t332 = true then ((spec_rsLength.f a0 a1 a2).bind fun t333 => (some (t333, true))) else (some (0, false)))) else (some (0, false)))) = some (r1, r2) := h
 clear h
 obtain ⟨t331, A4, H⟩ := xO H
 (try dsimp only at H)
 by_cases c5 : t331 = true
 rotate_left
 ·replace c5 := Bool.eq_false_iff.mpr c5
  subst c5
  rw [if_neg (show ¬ (false = true) by decide)] at H
  simp only [Option.some.injEq, Prod.mk.injEq] at H
  obtain ⟨rfl, rfl⟩ := H
  go_enter Try.func26, Try.ntmps26
  go_wp2_with (first | (refine xG (some 9) Try.func230 #[.int .i64 a0, .int .i64 0, .int .i64 64] ?_; (with_reducible refine (spec_l1In.calls a0 0 64 false _ A4.out).mono ?_); rintro e w' ⟨rfl, ⟨nd, rfl⟩⟩; refine ⟨_, rfl, ?_⟩))
  go_ret2
  exact ⟨by first | rfl | (simp; done) | (simp [*]; done), by repeat (first | exact Drawn0.refl _ | apply Drawn0.step)⟩

 subst c5
 rw [if_pos rfl] at H
 obtain ⟨t332, A6, H⟩ := xO H
 (try dsimp only at H)
 by_cases c7 : t332 = true
 rotate_left
 ·replace c7 := Bool.eq_false_iff.mpr c7
  subst c7
  rw [if_neg (show ¬ (false = true) by decide)] at H
  simp only [Option.some.injEq, Prod.mk.injEq] at H
  obtain ⟨rfl, rfl⟩ := H
  go_enter Try.func26, Try.ntmps26
  go_wp2_with (first | (refine xG (some 9) Try.func230 #[.int .i64 a0, .int .i64 0, .int .i64 64] ?_; (with_reducible refine (spec_l1In.calls a0 0 64 true _ A4.out).mono ?_); rintro e w' ⟨rfl, ⟨nd, rfl⟩⟩; refine ⟨_, rfl, ?_⟩) | (go_at_call 231; (with_reducible refine (spec_rsRatio.calls a1 a2 false _ A6.out).mono ?_); rintro e w' ⟨rfl, ⟨nd, rfl⟩⟩))
  go_ret2
  exact ⟨by first | rfl | (simp; done) | (simp [*]; done), by repeat (first | exact Drawn0.refl _ | apply Drawn0.step)⟩
 subst c7
 rw [if_pos rfl] at H
 obtain ⟨t333, A8, H⟩ := xO H
 (try dsimp only at H)
 simp only [Option.some.injEq, Prod.mk.injEq] at H
 obtain ⟨rfl, rfl⟩ := H
 go_enter Try.func26, Try.ntmps26
 go_wp2_with (first | (refine xG (some 9) Try.func230 #[.int .i64 a0, .int .i64 0, .int .i64 64] ?_; (with_reducible refine (spec_l1In.calls a0 0 64 true _ A4.out).mono ?_); rintro e w' ⟨rfl, ⟨nd, rfl⟩⟩; refine ⟨_, rfl, ?_⟩) | (go_at_call 231; (with_reducible refine (spec_rsRatio.calls a1 a2 true _ A6.out).mono ?_); rintro e w' ⟨rfl, ⟨nd, rfl⟩⟩) | (refine xG (some 20) Try.func218 #[.int .i64 a0, .int .i64 a1, .int .i64 a2] ?_; (with_reducible refine (spec_rsLength.calls a0 a1 a2 t333 _ A8.out).mono ?_); rintro e w' ⟨rfl, ⟨nd, rfl⟩⟩; refine ⟨_, rfl, ?_⟩))
 go_ret2
 exact ⟨by first | rfl | (simp; done) | (simp [*]; done), by repeat (first | exact Drawn0.refl _ | apply Drawn0.step)⟩
/-! ### spec_DrawSourceOf: function 27 -/
def spec_DrawSourceOf.f (l0 : List Int) : Option (Int × Int × Int) := (spec_l1Cur_ratio.f l0 0 0).bind fun bt335 => ((spec_l1Cur_one.f l0 bt335.2.2.1 bt335.2.2.2 10).bind fun bt339 => (if bt339.1 = true then ((spec_l1Cur_among.f l0 bt339.2.1 bt339.2.2 (([(-1), 0, 1000, 1001] : List Int))).bind fun bt345 => (some (bt345.1, bt335.1, bt335.2.1))) else ((spec_l1Cur_pick.f l0 bt339.2.1 bt339.2.2 40).bind fun bt348 => (some (bt348.1, bt335.1, bt335.2.1)))))
set_option maxHeartbeats 8000000 in
set_option maxRecDepth 100000 in
theorem spec_DrawSourceOf.calls (A0 : Option Addr) (c0 : Nat) (l0 : List Int) (r1 : Int) (r2 : Int) (r3 : Int) (w : World) (hr0 : Kd.C (Kd.int .u8) w A0 l0.length l0) (hc0 : l0.length ≤ c0) (h : spec_DrawSourceOf.f l0 = some (r1, r2, r3)) :
  Calls Try.prog 27 #[.slice A0 l0.length c0] w fun e w' => e = .returned (.tuple #[.int .i64 r1, .int .i64 r2, .int .i64 r3]) ∧ Below w.heap.size w w' := by
 have hu129 := Try.underlying129
 have HR0 := Aside0.mk hr0
 have HC0 := Aside0.mk hc0
 clear hr0 hc0
 have HB := Aside0.mk (Below.refl w.heap.size w)
 have H : ((spec_l1Cur_ratio.f l0 0 0).bind fun bt335 => ((spec_l1Cur_one.f l0 bt335.2.2.1 bt335.2.2.2 10).bind fun bt339 => (if bt339.1 = true then ((spec_l1Cur_among.f l0 bt339.2.1 bt339.2.2 (([(-1), 0, 1000, 1001] : List Int))).bind fun bt345 => (some (bt345.1, bt335.1, bt335.2.1))) else ((spec_l1Cur_pick.f l0 bt339.2.1 bt339.2.2 40).bind fun bt348 => (some (bt348.1, bt335.1, bt335.2.1)))))) = some (r1, r2, r3) := h
 clear h
 replace H := Option.bind_eq_some_iff.mp H
 obtain ⟨⟨t335, t336, t337, t338⟩, A20, H⟩ := H
 (try dsimp only at H)
 have A2 := Aside0.mk A20
 clear A20
 replace H := Option.bind_eq_some_iff.mp H
 obtain ⟨⟨t339, t340, t341⟩, A30, H⟩ := H
 (try dsimp only at H)
 have A3 := Aside0.mk A30
 clear A30
 by_cases c4 : t339 = true
 rotate_left
 ·replace c4 := Bool.eq_false_iff.mpr c4
  subst c4
  rw [if_neg (show ¬ (false = true) by decide)] at H
  replace H := Option.bind_eq_some_iff.mp H
  obtain ⟨⟨t348, t349, t350⟩, A130, H⟩ := H
  (try dsimp only at H)
  have A13 := Aside0.mk A130
  clear A130
  simp only [Option.some.injEq, Prod.mk.injEq] at H
  obtain ⟨rfl, rfl, rfl⟩ := H
  go_enter Try.func27, Try.ntmps27
  go_wp2_with (first | (refine xV 10 #[.slice A0 l0.length c0, .int .i64 0, .int .u64 0] 129 ?_; intro gb334 hg w14 hbox hb; have HI334 := Aside0.mk ((show IsS129 w _ gb334 l0 0 0 from ⟨_, _, hbox, (by rw [hg]; exact (below_size (xB HB.out)) : w.heap.size ≤ gb334), HR0.out⟩)); replace HB := Aside0.mk (below_step (xB HB.out) hb); clear hb hbox hg) | (refine xG (some 13) Try.func213 #[.pointer (some ⟨gb334, 0, none⟩)] ?_; (with_reducible refine (spec_l1Cur_ratio.calls gb334 l0 0 0 t335 t336 t337 t338 w _ ?side1 ?side2 A2.out).mono ?_); (case side1 => repeat (first | (with_reducible first | exact HI334.out | apply IsS129.alloc | apply IsS129.drewN | apply IsS129.drew | apply IsS129.set_1 | apply IsS129.set_2) | exact HI334.out)); (case side2 => repeat (first | (with_reducible first | exact HB.out | apply below_alloc | apply pw_below_drewN | apply below_drew1 | refine below_set ?_ (IsS129.ge HI334.out)) | exact HB.out)); rintro e w15 ⟨rfl, hi, hb, hk⟩; refine ⟨_, rfl, ?_⟩; replace HB := Aside0.mk (hb); replace HI334 := Aside0.mk (hi); (try clear hb); (try clear hb2); (try clear hk); (try clear hi)) | (refine xG (some 17) Try.func227 #[.pointer (some ⟨gb334, 0, none⟩), .int .i64 10] ?_; (with_reducible refine (spec_l1Cur_one.calls gb334 l0 t337 t338 10 false t340 t341 w _ ?side1 ?side2 A3.out).mono ?_); (case side1 => repeat (first | (with_reducible first | exact HI334.out | apply IsS129.alloc | apply IsS129.drewN | apply IsS129.drew | apply IsS129.set_1 | apply IsS129.set_2) | exact HI334.out)); (case side2 => repeat (first | (with_reducible first | exact HB.out | apply below_alloc | apply pw_below_drewN | apply below_drew1 | refine below_set ?_ (IsS129.ge HI334.out)) | exact HB.out)); rintro e w16 ⟨rfl, hi, hb, hk⟩; refine ⟨_, rfl, ?_⟩; replace HB := Aside0.mk (hb); replace HI334 := Aside0.mk (hi); (try clear hb); (try clear hb2); (try clear hk); (try clear hi)) | (refine xG (some 24) Try.func229 #[.pointer (some ⟨gb334, 0, none⟩), .int .i64 40] ?_; (with_reducible refine (spec_l1Cur_pick.calls gb334 l0 t340 t341 40 t348 t349 t350 w _ ?side1 ?side2 A13.out).mono ?_); (case side1 => repeat (first | (with_reducible first | exact HI334.out | apply IsS129.alloc | apply IsS129.drewN | apply IsS129.drew | apply IsS129.set_1 | apply IsS129.set_2) | exact HI334.out)); (case side2 => repeat (first | (with_reducible first | exact HB.out | apply below_alloc | apply pw_below_drewN | apply below_drew1 | refine below_set ?_ (IsS129.ge HI334.out)) | exact HB.out)); rintro e w17 ⟨rfl, hi, hb, hk⟩; refine ⟨_, rfl, ?_⟩; replace HB := Aside0.mk (hb); replace HI334 := Aside0.mk (hi); (try clear hb); (try clear hb2); (try clear hk); (try clear hi)))
  go_ret3
  exact ⟨by first | rfl | (simp [errW_none, errW_some] <;> rfl) | (simp [*, errW_none, errW_some] <;> rfl), by repeat (first | (with_reducible first | exact HB.out | apply below_alloc | apply pw_below_drewN | apply below_drew1 | refine below_set ?_ (IsS129.ge HI334.out)) | exact HB.out)⟩

 subst c4
 rw [if_pos rfl] at H
 obtain ⟨y342, hy342⟩ : ∃ y_ : List Int, y_ = (([(-1), 0, 1000, 1001] : List Int)) := ⟨_, rfl⟩
 replace H : ((spec_l1Cur_among.f l0 t340 t341 y342).bind fun bt345 => (some (bt345.1, t335, t336))) = some (r1, r2, r3) := by first | (rw [hy342]; with_reducible exact H) | (have H2_ := (Option.bind_some _ _).symm.trans H; rw [hy342]; with_reducible exact H2_) | (have H2_ := (Option.bind_some _ _).symm.trans H; with_reducible exact H2_) | with_reducible exact H | (rw [hy342]; exact H) | exact H
 have Ny342 := Aside0.mk hy342
 clear hy342
 replace H := Option.bind_eq_some_iff.mp H
 obtain ⟨⟨t345, t346, t347⟩, A50, H⟩ := H
 (try dsimp only at H)
 have A5 := Aside0.mk A50
 clear A50
 simp only [Option.some.injEq, Prod.mk.injEq] at H
 obtain ⟨rfl, rfl, rfl⟩ := H
 go_enter Try.func27, Try.ntmps27
 go_wp2_with (first | (refine xV 10 #[.slice A0 l0.length c0, .int .i64 0, .int .u64 0] 129 ?_; intro gb334 hg w6 hbox hb; have HI334 := Aside0.mk ((show IsS129 w _ gb334 l0 0 0 from ⟨_, _, hbox, (by rw [hg]; exact (below_size (xB HB.out)) : w.heap.size ≤ gb334), HR0.out⟩)); replace HB := Aside0.mk (below_step (xB HB.out) hb); clear hb hbox hg) | (refine xG (some 13) Try.func213 #[.pointer (some ⟨gb334, 0, none⟩)] ?_; (with_reducible refine (spec_l1Cur_ratio.calls gb334 l0 0 0 t335 t336 t337 t338 w _ ?side1 ?side2 A2.out).mono ?_); (case side1 => repeat (first | (with_reducible first | exact HI334.out | apply IsS129.alloc | apply IsS129.drewN | apply IsS129.drew | apply IsS129.set_1 | apply IsS129.set_2) | exact HI334.out)); (case side2 => repeat (first | (with_reducible first | exact HB.out | apply below_alloc | apply pw_below_drewN | apply below_drew1 | refine below_set ?_ (IsS129.ge HI334.out)) | exact HB.out)); rintro e w7 ⟨rfl, hi, hb, hk⟩; refine ⟨_, rfl, ?_⟩; replace HB := Aside0.mk (hb); replace HI334 := Aside0.mk (hi); (try clear hb); (try clear hb2); (try clear hk); (try clear hi)) | (refine xG (some 17) Try.func227 #[.pointer (some ⟨gb334, 0, none⟩), .int .i64 10] ?_; (with_reducible refine (spec_l1Cur_one.calls gb334 l0 t337 t338 10 true t340 t341 w _ ?side1 ?side2 A3.out).mono ?_); (case side1 => repeat (first | (with_reducible first | exact HI334.out | apply IsS129.alloc | apply IsS129.drewN | apply IsS129.drew | apply IsS129.set_1 | apply IsS129.set_2) | exact HI334.out)); (case side2 => repeat (first | (with_reducible first | exact HB.out | apply below_alloc | apply pw_below_drewN | apply below_drew1 | refine below_set ?_ (IsS129.ge HI334.out)) | exact HB.out)); rintro e w8 ⟨rfl, hi, hb, hk⟩; refine ⟨_, rfl, ?_⟩; replace HB := Aside0.mk (hb); replace HI334 := Aside0.mk (hi); (try clear hb); (try clear hb2); (try clear hk); (try clear hi)) | ((with_reducible refine gate_dst (N := 19) rfl ?_); refine Kd.R_lit (Kd.int .i64) _ 3 ?hg (N := 19) ?hd (xs := ([(-1), 0, 1000, 1001] : List Int)) (inner := [.int .i64 (-1), .int .i64 0, .int .i64 1000, .int .i64 1001]) (ok := fun _ => True) (okp := fun _ => True) ?hr ?hp (fun _ hk => hk) trivial (Below.refl _ _) (Nat.le_refl _) (by simp) ?_; (case hd => rfl); (case hg => rfl); (case hr => first | (go_simp; done) | (go_simp; rfl)); (case hp => exact (Reps.one (show Kd.M (Kd.int .i64) _ _ _ (-1) [.int .i64 (-1)] from rfl) (Reps.one (show Kd.M (Kd.int .i64) _ _ _ 0 [.int .i64 0] from rfl) (Reps.one (show Kd.M (Kd.int .i64) _ _ _ 1000 [.int .i64 1000] from rfl) (Reps.one (show Kd.M (Kd.int .i64) _ _ _ 1001 [.int .i64 1001] from rfl) (Reps.none _ _)))))); intro v343 w9 ho10 hb hg_ hnew_; clear hg_ hnew_; (first | rw [← Ny342.out] at ho10 | (simp only [Int.reduceToNat] at ho10; rw [← Ny342.out] at ho10)); have HO344 := Aside0.mk (Kd.R_lower ho10 (below_size (by repeat (first | (with_reducible first | exact HB.out | apply below_alloc | apply pw_below_drewN | apply below_drew1 | refine below_set ?_ (IsS129.ge HI334.out)) | exact HB.out)))); replace HB := Aside0.mk (below_step (by repeat (first | (with_reducible first | exact HB.out | apply below_alloc | apply pw_below_drewN | apply below_drew1 | refine below_set ?_ (IsS129.ge HI334.out)) | exact HB.out)) hb); replace HI334 := Aside0.mk (IsS129.below (by repeat (first | (with_reducible first | exact HI334.out | apply IsS129.alloc | apply IsS129.drewN | apply IsS129.drew | apply IsS129.set_1 | apply IsS129.set_2) | exact HI334.out)) hb); clear hb ho10; obtain ⟨Ao11, co11, eo11⟩ := Kd.R_slice HO344.out; subst eo11) | (refine xG (some 20) Try.func228 #[.pointer (some ⟨gb334, 0, none⟩), .slice Ao11 y342.length co11] ?_; (with_reducible refine (spec_l1Cur_among.calls gb334 l0 t340 t341 _ _ y342 t345 t346 t347 w _ ?side1 ?side2 ?side3 ?side4 ?side5 A5.out).mono ?_); (case side1 => repeat (first | (with_reducible first | exact HI334.out | apply IsS129.alloc | apply IsS129.drewN | apply IsS129.drew | apply IsS129.set_1 | apply IsS129.set_2) | exact HI334.out)); (case side2 => repeat (first | (with_reducible first | exact HB.out | apply below_alloc | apply pw_below_drewN | apply below_drew1 | refine below_set ?_ (IsS129.ge HI334.out)) | exact HB.out)); (case side3 => exact xC ((Kd.R_reads' HO344.out).2.2)); (case side4 => exact (Kd.R_reads' HO344.out).2.1); (case side5 => exact far_slice (IsS129.own_ne HI334.out HO344.out (by decide))); rintro e w12 ⟨rfl, hi, hb, hk⟩; refine ⟨_, rfl, ?_⟩; replace HO344 := Aside0.mk (Kd.R_mono (Kd.R_keep (IsS129.apart (show IsS129 w _ gb334 l0 t340 t341 from by repeat (first | (with_reducible first | exact HI334.out | apply IsS129.alloc | apply IsS129.drewN | apply IsS129.drew | apply IsS129.set_1 | apply IsS129.set_2) | exact HI334.out)) (xR HO344.out) (by decide)) hk (fun _ h => h.2)) (fun _ h => h.1)); replace HB := Aside0.mk (hb); replace HI334 := Aside0.mk (hi); (try clear hb); (try clear hb2); (try clear hk); (try clear hi)))
 go_ret3
 exact ⟨by first | rfl | (simp [errW_none, errW_some] <;> rfl) | (simp [*, errW_none, errW_some] <;> rfl), by repeat (first | (with_reducible first | exact HB.out | apply below_alloc | apply pw_below_drewN | apply below_drew1 | refine below_set ?_ (IsS129.ge HI334.out)) | exact HB.out)⟩
/-! ### spec_SourceOf: function 28 -/
def spec_SourceOf.f (a0 : Int) (a1 : Int) (a2 : Int) : Option (Int × Int × Bool) := (spec_l1In.f a0 0 1000).bind fun t351 => (if t351 = true then ((spec_rsRatio.f a1 a2).bind fun t352 => (if t352 = true then (if a1 = 0 then (none) else (some (wrap64 (Int.tdiv (wrap64 (a0 * a2)) a1), Int.tmod (wrap64 (a0 * a2)) a1, true))) else (some (0, 0, false)))) else (some (0, 0, false)))
set_option maxHeartbeats 8000000 in
set_option maxRecDepth 100000 in
theorem spec_SourceOf.calls (a0 : Int) (a1 : Int) (a2 : Int) (r1 : Int) (r2 : Int) (r3 : Bool) (w : World) (h : spec_SourceOf.f a0 a1 a2 = some (r1, r2, r3)) :
  Calls Try.prog 28 #[.int .i64 a0, .int .i64 a1, .int .i64 a2] w fun e w' => e = .returned (.tuple #[.int .i64 r1, .int .i64 r2, .bool r3]) ∧ Drawn0 w w' := by
 have H : ((spec_l1In.f a0 0 1000).bind fun t351 => (if t351 = true then ((spec_rsRatio.f a1 a2).bind fun t352 => (if t352 = true then (if a1 = 0 then (none) else (some (wrap64 (Int.tdiv (wrap64 (a0 * a2)) a1), Int.tmod (wrap64 (a0 * a2)) a1, true))) else (some (0, 0, false)))) else (some (0, 0, false)))) = some (r1, r2, r3) := h
 clear h
 obtain ⟨t351, A4, H⟩ := xO H
 (try dsimp only at H)
 by_cases c5 : t351 = true
 rotate_left
 ·replace c5 := Bool.eq_false_iff.mpr c5
  subst c5
  rw [if_neg (show ¬ (false = true) by decide)] at H
  simp only [Option.some.injEq, Prod.mk.injEq] at H
  obtain ⟨rfl, rfl, rfl⟩ := H
  go_enter Try.func28, Try.ntmps28
  go_wp2_with (first | (go_at_call 230; (with_reducible refine (spec_l1In.calls a0 0 1000 false _ A4.out).mono ?_); rintro e w' ⟨rfl, ⟨nd, rfl⟩⟩; (try exact xD)))
  repeat (go_quiet (first | (go_at_call 230; (with_reducible refine (spec_l1In.calls a0 0 1000 false _ A4.out).mono ?_); rintro e w' ⟨rfl, ⟨nd, rfl⟩⟩; (try exact xD))); try go_wp2_with (first | (go_at_call 230; (with_reducible refine (spec_l1In.calls a0 0 1000 false _ A4.out).mono ?_); rintro e w' ⟨rfl, ⟨nd, rfl⟩⟩; (try exact xD))))
  go_ret3
  exact ⟨by first | rfl | (simp; done) | (simp [*]; done), by repeat (first | exact Drawn0.refl _ | apply Drawn0.step)⟩

 subst c5
 rw [if_pos rfl] at H
 obtain ⟨t352, A6, H⟩ := xO H
 (try dsimp only at H)
 by_cases c7 : t352 = true
 rotate_left
 ·replace c7 := Bool.eq_false_iff.mpr c7
  subst c7
  rw [if_neg (show ¬ (false = true) by decide)] at H
  simp only [Option.some.injEq, Prod.mk.injEq] at H
  obtain ⟨rfl, rfl, rfl⟩ := H
  go_enter Try.func28, Try.ntmps28
  go_wp2_with (first | (go_at_call 230; (with_reducible refine (spec_l1In.calls a0 0 1000 true _ A4.out).mono ?_); rintro e w' ⟨rfl, ⟨nd, rfl⟩⟩; (try exact xD)) | (go_at_call 231; (with_reducible refine (spec_rsRatio.calls a1 a2 false _ A6.out).mono ?_); rintro e w' ⟨rfl, ⟨nd, rfl⟩⟩; (try exact xD)))
  repeat (go_quiet (first | (go_at_call 230; (with_reducible refine (spec_l1In.calls a0 0 1000 true _ A4.out).mono ?_); rintro e w' ⟨rfl, ⟨nd, rfl⟩⟩; (try exact xD)) | (go_at_call 231; (with_reducible refine (spec_rsRatio.calls a1 a2 false _ A6.out).mono ?_); rintro e w' ⟨rfl, ⟨nd, rfl⟩⟩; (try exact xD))); try go_wp2_with (first | (go_at_call 230; (with_reducible refine (spec_l1In.calls a0 0 1000 true _ A4.out).mono ?_); rintro e w' ⟨rfl, ⟨nd, rfl⟩⟩; (try exact xD)) | (go_at_call 231; (with_reducible refine (spec_rsRatio.calls a1 a2 false _ A6.out).mono ?_); rintro e w' ⟨rfl, ⟨nd, rfl⟩⟩; (try exact xD))))
  go_ret3
  exact ⟨by first | rfl | (simp; done) | (simp [*]; done), by repeat (first | exact Drawn0.refl _ | apply Drawn0.step)⟩
 subst c7
 rw [if_pos rfl] at H
 by_cases c8 : a1 = 0
 ·rw [if_pos c8] at H
  exact absurd H (by simp)
 rw [if_neg c8] at H
 have c8b0 : (a1 == 0) = false := beq_eq_false_iff_ne.mpr c8
 have c8b1 : (a1 != 0) = true := bne_iff_ne.mpr c8
 simp only [Option.some.injEq, Prod.mk.injEq] at H
 obtain ⟨rfl, rfl, rfl⟩ := H
 go_enter Try.func28, Try.ntmps28
 go_wp2_with (first | (go_at_call 230; (with_reducible refine (spec_l1In.calls a0 0 1000 true _ A4.out).mono ?_); rintro e w' ⟨rfl, ⟨nd, rfl⟩⟩; (try exact xD)) | (go_at_call 231; (with_reducible refine (spec_rsRatio.calls a1 a2 true _ A6.out).mono ?_); rintro e w' ⟨rfl, ⟨nd, rfl⟩⟩; (try exact xD)))
 repeat (go_quiet (first | (go_at_call 230; (with_reducible refine (spec_l1In.calls a0 0 1000 true _ A4.out).mono ?_); rintro e w' ⟨rfl, ⟨nd, rfl⟩⟩; (try exact xD)) | (go_at_call 231; (with_reducible refine (spec_rsRatio.calls a1 a2 true _ A6.out).mono ?_); rintro e w' ⟨rfl, ⟨nd, rfl⟩⟩; (try exact xD))); try go_wp2_with (first | (go_at_call 230; (with_reducible refine (spec_l1In.calls a0 0 1000 true _ A4.out).mono ?_); rintro e w' ⟨rfl, ⟨nd, rfl⟩⟩; (try exact xD)) | (go_at_call 231; (with_reducible refine (spec_rsRatio.calls a1 a2 true _ A6.out).mono ?_); rintro e w' ⟨rfl, ⟨nd, rfl⟩⟩; (try exact xD))))
 go_ret3
 exact ⟨by first | rfl | (simp; done) | (simp [*]; done), by repeat (first | exact Drawn0.refl _ | apply Drawn0.step)⟩
/-! ### spec_DrawLinesOfSame: function 29 -/
def spec_DrawLinesOfSame.f (k : Nat) (l0 : List Int) : Option (List Int × Int) := (spec_l1Cur_ratio.f l0 0 0).bind fun bt354 => ((spec_l1Cur_signal.f k l0 bt354.2.2.1 bt354.2.2.2 10 50).bind fun bt358 => (some (bt358.1, bt354.1)))
theorem spec_DrawLinesOfSame.mono : ∀ a0 k, LeO (spec_DrawLinesOfSame.f k a0) (spec_DrawLinesOfSame.f (k + 1) a0) := by
 intro a0 k
 have m0 := @spec_l1Cur_signal.mono
 unfold spec_DrawLinesOfSame.f
 exact xM
set_option maxHeartbeats 8000000 in
set_option maxRecDepth 100000 in
theorem spec_DrawLinesOfSame.calls (k : Nat) (A0 : Option Addr) (c0 : Nat) (l0 : List Int) (r1 : List Int) (r2 : Int) (w : World) (hr0 : Kd.C (Kd.int .u8) w A0 l0.length l0) (hc0 : l0.length ≤ c0) (h : spec_DrawLinesOfSame.f k l0 = some (r1, r2)) :
  Calls Try.prog 29 #[.slice A0 l0.length c0] w fun e w' => ∃ v0_ : Value, e = .returned (.tuple #[v0_, .int .i64 r2]) ∧ Kd.R (Kd.int .i64) 3 w' w.heap.size (fun _ => True) v0_ r1 ∧ Below w.heap.size w w' := by
 have hu129 := Try.underlying129
 have HR0 := Aside0.mk hr0
 have HC0 := Aside0.mk hc0
 clear hr0 hc0
 have HB := Aside0.mk (Below.refl w.heap.size w)
 have H : ((spec_l1Cur_ratio.f l0 0 0).bind fun bt354 => ((spec_l1Cur_signal.f k l0 bt354.2.2.1 bt354.2.2.2 10 50).bind fun bt358 => (some (bt358.1, bt354.1)))) = some (r1, r2) := h
 clear h
 replace H := Option.bind_eq_some_iff.mp H
 obtain ⟨⟨t354, t355, t356, t357⟩, A20, H⟩ := H
 (try dsimp only at H)
 have A2 := Aside0.mk A20
 clear A20
 replace H := Option.bind_eq_some_iff.mp H
 obtain ⟨⟨t358, t361, t362⟩, A30, H⟩ := H
 (try dsimp only at H)
 have A3 := Aside0.mk A30
 clear A30
 simp only [Option.some.injEq, Prod.mk.injEq] at H
 obtain ⟨rfl, rfl⟩ := H
 go_enter Try.func29, Try.ntmps29
 go_wp2_with (first | (refine xV 9 #[.slice A0 l0.length c0, .int .i64 0, .int .u64 0] 129 ?_; intro gb353 hg w4 hbox hb; have HI353 := Aside0.mk ((show IsS129 w _ gb353 l0 0 0 from ⟨_, _, hbox, (by rw [hg]; exact (below_size (xB HB.out)) : w.heap.size ≤ gb353), HR0.out⟩)); replace HB := Aside0.mk (below_step (xB HB.out) hb); clear hb hbox hg) | (refine xG (some 12) Try.func213 #[.pointer (some ⟨gb353, 0, none⟩)] ?_; (with_reducible refine (spec_l1Cur_ratio.calls gb353 l0 0 0 t354 t355 t356 t357 w _ ?side1 ?side2 A2.out).mono ?_); (case side1 => repeat (first | (with_reducible first | exact HI353.out | apply IsS129.alloc | apply IsS129.drewN | apply IsS129.drew | apply IsS129.set_1 | apply IsS129.set_2) | exact HI353.out)); (case side2 => repeat (first | (with_reducible first | exact HB.out | apply below_alloc | apply pw_below_drewN | apply below_drew1 | refine below_set ?_ (IsS129.ge HI353.out)) | exact HB.out)); rintro e w5 ⟨rfl, hi, hb, hk⟩; refine ⟨_, rfl, ?_⟩; replace HB := Aside0.mk (hb); replace HI353 := Aside0.mk (hi); (try clear hb); (try clear hb2); (try clear hk); (try clear hi)) | (refine xG (some 16) Try.func214 #[.pointer (some ⟨gb353, 0, none⟩), .int .i64 10, .int .i64 50] ?_; (with_reducible refine (spec_l1Cur_signal.calls k gb353 l0 t356 t357 10 50 t358 t361 t362 w _ ?side1 ?side2 A3.out).mono ?_); (case side1 => repeat (first | (with_reducible first | exact HI353.out | apply IsS129.alloc | apply IsS129.drewN | apply IsS129.drew | apply IsS129.set_1 | apply IsS129.set_2) | exact HI353.out)); (case side2 => repeat (first | (with_reducible first | exact HB.out | apply below_alloc | apply pw_below_drewN | apply below_drew1 | refine below_set ?_ (IsS129.ge HI353.out)) | exact HB.out)); rintro e w6 ⟨v359, rfl, ho0, hi, hb, hk⟩; refine ⟨_, rfl, ?_⟩; have HO360 := Aside0.mk (Kd.R_lower ho0 (below_size (by repeat (first | (with_reducible first | exact HB.out | apply below_alloc | apply pw_below_drewN | apply below_drew1 | refine below_set ?_ (IsS129.ge HI353.out)) | exact HB.out)))); replace HB := Aside0.mk (hb); replace HI353 := Aside0.mk (hi); (try clear hb); (try clear hb2); (try clear hk); (try clear hi); (try clear ho0)))
 go_ret2
 exact ⟨_, by first | rfl | (simp [errW_none, errW_some] <;> rfl) | (simp [*, errW_none, errW_some] <;> rfl), xR HO360.out, by repeat (first | (with_reducible first | exact HB.out | apply below_alloc | apply pw_below_drewN | apply below_drew1 | refine below_set ?_ (IsS129.ge HI353.out)) | exact HB.out)⟩

/-! ### impl_LinesOfSame: function 30 -/
def impl_LinesOfSame.f (k : Nat) (l0 : List Int) (a1 : Int) : Option (List Int × Bool) := (impl_LineSamples.f k l0 a1 1).bind fun bt363 => (some (bt363.1, bt363.2))
theorem impl_LinesOfSame.mono : ∀ a0 a1 k, LeO (impl_LinesOfSame.f k a0 a1) (impl_LinesOfSame.f (k + 1) a0 a1) := by
 intro a0 a1 k
 have m0 := @impl_LineSamples.mono
 unfold impl_LinesOfSame.f
 exact xM
set_option maxHeartbeats 8000000 in
set_option maxRecDepth 100000 in
theorem impl_LinesOfSame.calls (k : Nat) (A0 : Option Addr) (c0 : Nat) (l0 : List Int) (a1 : Int) (r1 : List Int) (r2 : Bool) (w : World) (hr0 : Kd.C (Kd.int .i64) w A0 l0.length l0) (hc0 : l0.length ≤ c0) (h : impl_LinesOfSame.f k l0 a1 = some (r1, r2)) :
  Calls Try.prog 30 #[.slice A0 l0.length c0, .int .i64 a1] w fun e w' => ∃ v0_ : Value, e = .returned (.tuple #[v0_, .bool r2]) ∧ Kd.R (Kd.int .i64) 3 w' w.heap.size (fun _ => True) v0_ r1 ∧ Below w.heap.size w w' := by
 have HR0 := Aside0.mk hr0
 have HC0 := Aside0.mk hc0
 clear hr0 hc0
 have HB := Aside0.mk (Below.refl w.heap.size w)
 have H : ((impl_LineSamples.f k l0 a1 1).bind fun bt363 => (some (bt363.1, bt363.2))) = some (r1, r2) := h
 clear h
 replace H := Option.bind_eq_some_iff.mp H
 obtain ⟨⟨t363, t364⟩, A30, H⟩ := H
 (try dsimp only at H)
 have A3 := Aside0.mk A30
 clear A30
 simp only [Option.some.injEq, Prod.mk.injEq] at H
 obtain ⟨rfl, rfl⟩ := H
 go_enter Try.func30, Try.ntmps30
 go_wp2_with (first | (refine xG (some 8) Try.func19 #[.slice A0 l0.length c0, .int .i64 a1, .int .i64 1] ?_; (with_reducible refine (impl_LineSamples.calls k _ _ l0 a1 1 t363 t364 _ ?side1 ?side2 A3.out).mono ?_); (case side1 => exact xC HR0.out); (case side2 => exact HC0.out); rintro e w4 ⟨v365, rfl, ho0, hb⟩; refine ⟨_, rfl, ?_⟩; have HO366 := Aside0.mk (Kd.R_lower ho0 (below_size (xB HB.out))); replace HB := Aside0.mk (below_step (xB HB.out) hb); (try clear hb); (try clear hb2); (try clear hk); (try clear hi); (try clear ho0)))
 go_ret2
 exact ⟨_, by first | rfl | (simp [errW_none, errW_some] <;> rfl) | (simp [*, errW_none, errW_some] <;> rfl), xR HO366.out, xB HB.out⟩

/-! ### spec_LinesOfSame: function 31 -/
def spec_LinesOfSame.f (k : Nat) (l0 : List Int) (a1 : Int) : Option (List Int × Bool) := (spec_rsGood.f k l0 a1 1).bind fun t367 => (if t367 = true then ((spec_rsLine.f k l0 a1 1).bind fun t368 => ((spec_wdIf.f k t368).bind fun bt371 => (some (bt371.1, bt371.2)))) else (some (([] : List Int), false)))
theorem spec_LinesOfSame.mono : ∀ a0 a1 k, LeO (spec_LinesOfSame.f k a0 a1) (spec_LinesOfSame.f (k + 1) a0 a1) := by
 intro a0 a1 k
 have m0 := @spec_rsGood.mono
 have m1 := @spec_rsLine.mono
 have m2 := @spec_wdIf.mono
 unfold spec_LinesOfSame.f
 exact xM
set_option maxHeartbeats 8000000 in
set_option maxRecDepth 100000 in
theorem spec_LinesOfSame.calls (k : Nat) (A0 : Option Addr) (c0 : Nat) (l0 : List Int) (a1 : Int) (r1 : List Int) (r2 : Bool) (w : World) (hr0 : Kd.C (Kd.int .i64) w A0 l0.length l0) (hc0 : l0.length ≤ c0) (h : spec_LinesOfSame.f k l0 a1 = some (r1, r2)) :
  Calls Try.prog 31 #[.slice A0 l0.length c0, .int .i64 a1] w fun e w' => ∃ v0_ : Value, e = .returned (.tuple #[v0_, .bool r2]) ∧ Kd.R (Kd.int .i64) 3 w' w.heap.size (fun _ => True) v0_ r1 ∧ Below w.heap.size w w' := by
 have HR0 := Aside0.mk hr0
 have HC0 := Aside0.mk hc0
 clear hr0 hc0
 have HB := Aside0.mk (Below.refl w.heap.size w)
 have H : ((spec_rsGood.f k l0 a1 1).bind fun t367 => (if t367 = true then ((spec_rsLine.f k l0 a1 1).bind fun t368 => ((spec_wdIf.f k t368).bind fun bt371 => (some (bt371.1, bt371.2)))) else (some (([] : List Int), false)))) = some (r1, r2) := h
 clear h
 obtain ⟨t367, A3, H⟩ := xO H
 (try dsimp only at H)
 by_cases c4 : t367 = true
 rotate_left
 ·replace c4 := Bool.eq_false_iff.mpr c4
  subst c4
  rw [if_neg (show ¬ (false = true) by decide)] at H
  simp only [Option.some.injEq, Prod.mk.injEq] at H
  obtain ⟨rfl, rfl⟩ := H
  go_enter Try.func31, Try.ntmps31
  go_wp2_with (first | (refine xG (some 8) Try.func217 #[.slice A0 l0.length c0, .int .i64 a1, .int .i64 1] ?_; (with_reducible refine (spec_rsGood.calls k _ _ l0 a1 1 false _ ?side1 ?side2 A3.out).mono ?_); (case side1 => exact xC HR0.out); (case side2 => exact HC0.out); rintro e w' ⟨rfl, ⟨nd, rfl⟩⟩; refine ⟨_, rfl, ?_⟩))
  go_ret2
  exact ⟨_, by first | rfl | (simp [errW_none, errW_some] <;> rfl) | (simp [*, errW_none, errW_some] <;> rfl), by first | exact Kd.R_nil _ _ _ _ _ | exact Kd.N_nil _ _ _ _ _ | exact Kd.V_nil _ _ _ _ _ | exact Kd.Q_nil _ _ _ _ _ | exact Kd.S_nil _ _ _ _ _, xB HB.out⟩

 subst c4
 rw [if_pos rfl] at H
 obtain ⟨t368, A5, H⟩ := xO H
 (try dsimp only at H)
 replace H := Option.bind_eq_some_iff.mp H
 obtain ⟨⟨t371, t374⟩, A60, H⟩ := H
 (try dsimp only at H)
 have A6 := Aside0.mk A60
 clear A60
 simp only [Option.some.injEq, Prod.mk.injEq] at H
 obtain ⟨rfl, rfl⟩ := H
 go_enter Try.func31, Try.ntmps31
 go_wp2_with (first | (refine xG (some 8) Try.func217 #[.slice A0 l0.length c0, .int .i64 a1, .int .i64 1] ?_; (with_reducible refine (spec_rsGood.calls k _ _ l0 a1 1 true _ ?side1 ?side2 A3.out).mono ?_); (case side1 => exact xC HR0.out); (case side2 => exact HC0.out); rintro e w' ⟨rfl, ⟨nd, rfl⟩⟩; refine ⟨_, rfl, ?_⟩) | (refine xG (some 12) Try.func222 #[.slice A0 l0.length c0, .int .i64 a1, .int .i64 1] ?_; (with_reducible refine (spec_rsLine.calls k _ _ l0 a1 1 t368 _ ?side1 ?side2 A5.out).mono ?_); (case side1 => exact xC HR0.out); (case side2 => exact HC0.out); rintro e w7 ⟨v369, rfl, ho0, hb⟩; refine ⟨_, rfl, ?_⟩; have HO370 := Aside0.mk (Kd.R_lower ho0 (below_size (xB HB.out))); replace HB := Aside0.mk (below_step (xB HB.out) hb); (try clear hb); (try clear hb2); (try clear hk); (try clear hi); (try clear ho0); obtain ⟨Ao8, co8, eo8⟩ := Kd.R_slice HO370.out; subst eo8) | (refine xG (some 13) Try.func219 #[.slice Ao8 t368.length co8] ?_; (with_reducible refine (spec_wdIf.calls k (fun k_ => some k_ = (.slice Ao8 t368.length co8 : Value).ownBlock) (.slice Ao8 t368.length co8) t368 t371 t374 w _ ?side1 ?side2 A6.out).mono ?_); (case side1 => repeat (first | (with_reducible first | exact HB.out | apply below_alloc | apply pw_below_drewN | apply below_drew1) | exact HB.out)); (case side2 => exact Kd.R_tight rfl HO370.out); rintro e w9 ⟨v372, rfl, ho0, hb, hkp⟩; refine ⟨_, rfl, ?_⟩; have HO373 := Aside0.mk (Kd.R_mono (ok' := fun k_ => True) ho0 (fun k_ hk_ => trivial)); replace HB := Aside0.mk (hb); clear HO370; (try clear hb); (try clear hkp); (try clear ho0)))
 go_ret2
 exact ⟨_, by first | rfl | (simp [errW_none, errW_some] <;> rfl) | (simp [*, errW_none, errW_some] <;> rfl), xR HO373.out, xB HB.out⟩
end Go.Proofs.Ytjplcongellcmaa.PFnRatesChanged
