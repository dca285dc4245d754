/- What each Go function that the statement FnFiltersInWords reaches answers, proved call by call. No condition beyond those that the theorems print. (Written by wip/tools/xprint.py of this repo, over the kit's print.) -/
import Derived.Test.YtjplcongellcmaaPFnFiltersInWordsx0
import Derived.Test.YtjplcongellcmaaPFnFiltersInWordsx1
import Derived.Test.YtjplcongellcmaaPFnFiltersInWordsx2
import Derived.Test.YtjplcongellcmaaPFnFiltersInWordsx3
import Derived.Test.YtjplcongellcmaaPFnFiltersInWordsx4
import Derived.Test.YtjplcongellcmaaPFnFiltersInWordsx5
namespace Go.Proofs.Ytjplcongellcmaa.PFnFiltersInWords
open Go.RowKit Go.Proofs.YtjplcongellcmaaW.PrintWords Go.Proofs.YtjplcongellcmaaW.PrintLast Go.Proofs.YtjplcongellcmaaW.PrintMore
attribute [local go_sem] max2_int min2_int max_two min_two max_three min_three max_four min_four   -- for this text's walks alone
set_option linter.unusedVariables false
set_option linter.unusedSimpArgs false

/-! ### impl_RangeOf: function 60 -/
def impl_RangeOf.f (a0_0 : Int) (a0_1 : Bool) : Option (Int × Int × Bool) := (impl_isWord.f a0_0 a0_1).bind fun t414 => (if t414 = true then ((impl_Word_ends.f a0_0 a0_1).bind fun bt415 => (some (bt415.1, bt415.2, true))) else (some (0, 0, false)))
set_option maxHeartbeats 8000000 in
set_option maxRecDepth 100000 in
theorem impl_RangeOf.calls (a0_0 : Int) (a0_1 : Bool) (r1 : Int) (r2 : Int) (r3 : Bool) (w : World) (h : impl_RangeOf.f a0_0 a0_1 = some (r1, r2, r3)) :
  Calls Try.prog 60 #[.agg #[.int .i64 a0_0, .bool a0_1]] w fun e w' => e = .returned (.tuple #[.int .i64 r1, .int .i64 r2, .bool r3]) ∧ Below w.heap.size w w' := by
 have hu46 := Try.underlying46
 have HB := Aside0.mk (Below.refl w.heap.size w)
 have H : ((impl_isWord.f a0_0 a0_1).bind fun t414 => (if t414 = true then ((impl_Word_ends.f a0_0 a0_1).bind fun bt415 => (some (bt415.1, bt415.2, true))) else (some (0, 0, false)))) = some (r1, r2, r3) := h
 clear h
 obtain ⟨t414, A2, H⟩ := xO H
 (try dsimp only at H)
 by_cases c3 : t414 = true
 rotate_left
 ·replace c3 := Bool.eq_false_iff.mpr c3
  subst c3
  rw [if_neg (show ¬ (false = true) by decide)] at H
  simp only [Option.some.injEq, Prod.mk.injEq] at H
  obtain ⟨rfl, rfl, rfl⟩ := H
  go_enter Try.func60, Try.ntmps60
  go_wp2_with (first | (refine xV 1 #[.int .i64 a0_0, .bool a0_1] 46 ?_; intro gb413 hg w10 hbox hb; have BK413 := Aside0.mk (hbox); have GW413 := Aside0.mk ((by rw [hg]; exact (below_size (xB HB.out)) : w.heap.size ≤ gb413)); have GE413 := Aside0.mk ((by rw [hg]; exact (below_size (xB HB.out)) : w.heap.size ≤ gb413)); replace HB := Aside0.mk (below_step (xB HB.out) hb); clear hb hbox hg; have hcz11_0 : w10.cell? ⟨gb413, 0, none⟩ = some (.int .i64 a0_0) := (blk_cell BK413.out 0).trans rfl; have hcz11_1 : w10.cell? ⟨gb413, 1, none⟩ = some (.bool a0_1) := (blk_cell BK413.out 1).trans rfl; have hfz11_0 := blk_frozen BK413.out 0; have hfz11_1 := blk_frozen BK413.out 1) | (refine xG (some 8) Try.func260 #[.agg #[.int .i64 a0_0, .bool a0_1]] ?_; (with_reducible refine (impl_isWord.calls a0_0 a0_1 false _ A2.out).mono ?_); rintro e w12 ⟨rfl, hb⟩; refine ⟨_, rfl, ?_⟩; replace BK413 := Aside0.mk (blk_below (g := gb413) (o := .cells #[.int .i64 a0_0, .bool a0_1] 46 (0, 0)) (by (with_reducible repeat (first | refine blk_drewN ?_ _ | refine blk_drew ?_ | refine blk_alloc ?_ _)); exact BK413.out) hb); replace HB := Aside0.mk (below_step (by repeat (first | (with_reducible first | exact HB.out | apply below_alloc | apply pw_below_drewN | apply below_drew1 | refine below_set ?_ GE413.out) | exact HB.out)) hb); (try clear hb); (try clear hb2); (try clear hk); (try clear hi)))
  go_ret3
  exact ⟨by first | rfl | (simp [errW_none, errW_some] <;> rfl) | (simp [*, errW_none, errW_some] <;> rfl), by repeat (first | (with_reducible first | exact HB.out | apply below_alloc | apply pw_below_drewN | apply below_drew1 | refine below_set ?_ GE413.out) | exact HB.out)⟩

 subst c3
 rw [if_pos rfl] at H
 replace H := Option.bind_eq_some_iff.mp H
 obtain ⟨⟨t415, t416⟩, A40, H⟩ := H
 (try dsimp only at H)
 have A4 := Aside0.mk A40
 clear A40
 simp only [Option.some.injEq, Prod.mk.injEq] at H
 obtain ⟨rfl, rfl, rfl⟩ := H
 go_enter Try.func60, Try.ntmps60
 go_wp2_with (first | (refine xV 1 #[.int .i64 a0_0, .bool a0_1] 46 ?_; intro gb413 hg w5 hbox hb; have BK413 := Aside0.mk (hbox); have GW413 := Aside0.mk ((by rw [hg]; exact (below_size (xB HB.out)) : w.heap.size ≤ gb413)); have GE413 := Aside0.mk ((by rw [hg]; exact (below_size (xB HB.out)) : w.heap.size ≤ gb413)); replace HB := Aside0.mk (below_step (xB HB.out) hb); clear hb hbox hg; have hcz6_0 : w5.cell? ⟨gb413, 0, none⟩ = some (.int .i64 a0_0) := (blk_cell BK413.out 0).trans rfl; have hcz6_1 : w5.cell? ⟨gb413, 1, none⟩ = some (.bool a0_1) := (blk_cell BK413.out 1).trans rfl; have hfz6_0 := blk_frozen BK413.out 0; have hfz6_1 := blk_frozen BK413.out 1) | (refine xG (some 8) Try.func260 #[.agg #[.int .i64 a0_0, .bool a0_1]] ?_; (with_reducible refine (impl_isWord.calls a0_0 a0_1 true _ A2.out).mono ?_); rintro e w7 ⟨rfl, hb⟩; refine ⟨_, rfl, ?_⟩; replace BK413 := Aside0.mk (blk_below (g := gb413) (o := .cells #[.int .i64 a0_0, .bool a0_1] 46 (0, 0)) (by (with_reducible repeat (first | refine blk_drewN ?_ _ | refine blk_drew ?_ | refine blk_alloc ?_ _)); exact BK413.out) hb); replace HB := Aside0.mk (below_step (by repeat (first | (with_reducible first | exact HB.out | apply below_alloc | apply pw_below_drewN | apply below_drew1 | refine below_set ?_ GE413.out) | exact HB.out)) hb); (try clear hb); (try clear hb2); (try clear hk); (try clear hi); have hcz8_0 : w7.cell? ⟨gb413, 0, none⟩ = some (.int .i64 a0_0) := (blk_cell BK413.out 0).trans rfl; have hcz8_1 : w7.cell? ⟨gb413, 1, none⟩ = some (.bool a0_1) := (blk_cell BK413.out 1).trans rfl; have hfz8_0 := blk_frozen BK413.out 0; have hfz8_1 := blk_frozen BK413.out 1) | (refine xG (some 12) Try.func261 #[.agg #[.int .i64 a0_0, .bool a0_1]] ?_; (with_reducible refine (impl_Word_ends.calls a0_0 a0_1 t415 t416 _ A4.out).mono ?_); rintro e w9 ⟨rfl, hb⟩; refine ⟨_, rfl, ?_⟩; replace BK413 := Aside0.mk (blk_below (g := gb413) (o := .cells #[.int .i64 a0_0, .bool a0_1] 46 (0, 0)) (by (with_reducible repeat (first | refine blk_drewN ?_ _ | refine blk_drew ?_ | refine blk_alloc ?_ _)); exact BK413.out) hb); replace HB := Aside0.mk (below_step (by repeat (first | (with_reducible first | exact HB.out | apply below_alloc | apply pw_below_drewN | apply below_drew1 | refine below_set ?_ GE413.out) | exact HB.out)) hb); (try clear hb); (try clear hb2); (try clear hk); (try clear hi)))
 go_ret3
 exact ⟨by first | rfl | (simp [errW_none, errW_some] <;> rfl) | (simp [*, errW_none, errW_some] <;> rfl), by repeat (first | (with_reducible first | exact HB.out | apply below_alloc | apply pw_below_drewN | apply below_drew1 | refine below_set ?_ GE413.out) | exact HB.out)⟩
/-! ### impl_isNumber: function 262 -/
def impl_isNumber.f (a0 : Int) : Option (Bool) := (impl_in.f a0 (-1000000000000) 1000000000000).bind fun t417 => (some t417)
set_option maxHeartbeats 8000000 in
set_option maxRecDepth 100000 in
theorem impl_isNumber.calls (a0 : Int) (r : Bool) (w : World) (h : impl_isNumber.f a0 = some r) :
  Calls Try.prog 262 #[.int .i64 a0] w fun e w' => e = .returned (.bool r) ∧ Drawn0 w w' := by
 have H : ((impl_in.f a0 (-1000000000000) 1000000000000).bind fun t417 => (some t417)) = some r := h
 clear h
 obtain ⟨t417, A2, H⟩ := xO H
 (try dsimp only at H)
 obtain rfl := Option.some.inj H
 go_enter Try.func262, Try.ntmps262
 go_wp2_with (first | (refine xG (some 4) Try.func223 #[.int .i64 a0, .int .i64 (-1000000000000), .int .i64 1000000000000] ?_; (with_reducible refine (impl_in.calls a0 (-1000000000000) 1000000000000 t417 _ A2.out).mono ?_); rintro e w' ⟨rfl, ⟨nd, rfl⟩⟩; refine ⟨_, rfl, ?_⟩))
 go_ret
 exact ⟨by first | rfl | (simp; done) | (simp [*]; done), by repeat (first | exact Drawn0.refl _ | apply Drawn0.step)⟩

/-! ### impl_RoundShift: function 61 -/
def impl_RoundShift.f (k : Nat) (a0 : Int) (a1 : Int) (a2 : Int) : Option (Int × Bool) := (impl_isNumber.f a0).bind fun t418 => (if t418 = true then ((impl_isShift.f a1 a2).bind fun t419 => (if t419 = true then ((impl_shifted.f k a0 a1 a2).bind fun t420 => (some (t420, true))) else (some (0, false)))) else (some (0, false)))
theorem impl_RoundShift.mono : ∀ a0 a1 a2 k, LeO (impl_RoundShift.f k a0 a1 a2) (impl_RoundShift.f (k + 1) a0 a1 a2) := by
 intro a0 a1 a2 k
 have m0 := @impl_shifted.mono
 unfold impl_RoundShift.f
 exact xM
set_option maxHeartbeats 8000000 in
set_option maxRecDepth 100000 in
theorem impl_RoundShift.calls (k : Nat) (a0 : Int) (a1 : Int) (a2 : Int) (r1 : Int) (r2 : Bool) (w : World) (h : impl_RoundShift.f k a0 a1 a2 = some (r1, r2)) :
  Calls Try.prog 61 #[.int .i64 a0, .int .i64 a1, .int .i64 a2] w fun e w' => e = .returned (.tuple #[.int .i64 r1, .bool r2]) ∧ Drawn0 w w' := by
 have H : ((impl_isNumber.f a0).bind fun t418 => (if t418 = true then ((impl_isShift.f a1 a2).bind fun t419 => (if t419 = true then ((impl_shifted.f k a0 a1 a2).bind fun t420 => (some (t420, true))) else (some (0, false)))) else (some (0, false)))) = some (r1, r2) := h
 clear h
 obtain ⟨t418, A4, H⟩ := xO H
 (try dsimp only at H)
 by_cases c5 : t418 = true
 rotate_left
 ·replace c5 := Bool.eq_false_iff.mpr c5
  subst c5
  rw [if_neg (show ¬ (false = true) by decide)] at H
  simp only [Option.some.injEq, Prod.mk.injEq] at H
  obtain ⟨rfl, rfl⟩ := H
  go_enter Try.func61, Try.ntmps61
  go_wp2_with (first | (refine xG (some 9) Try.func262 #[.int .i64 a0] ?_; (with_reducible refine (impl_isNumber.calls a0 false _ A4.out).mono ?_); rintro e w' ⟨rfl, ⟨nd, rfl⟩⟩; refine ⟨_, rfl, ?_⟩))
  go_ret2
  exact ⟨by first | rfl | (simp; done) | (simp [*]; done), by repeat (first | exact Drawn0.refl _ | apply Drawn0.step)⟩

 subst c5
 rw [if_pos rfl] at H
 obtain ⟨t419, A6, H⟩ := xO H
 (try dsimp only at H)
 by_cases c7 : t419 = true
 rotate_left
 ·replace c7 := Bool.eq_false_iff.mpr c7
  subst c7
  rw [if_neg (show ¬ (false = true) by decide)] at H
  simp only [Option.some.injEq, Prod.mk.injEq] at H
  obtain ⟨rfl, rfl⟩ := H
  go_enter Try.func61, Try.ntmps61
  go_wp2_with (first | (refine xG (some 9) Try.func262 #[.int .i64 a0] ?_; (with_reducible refine (impl_isNumber.calls a0 true _ A4.out).mono ?_); rintro e w' ⟨rfl, ⟨nd, rfl⟩⟩; refine ⟨_, rfl, ?_⟩) | (go_at_call 263; (with_reducible refine (impl_isShift.calls a1 a2 false _ A6.out).mono ?_); rintro e w' ⟨rfl, ⟨nd, rfl⟩⟩))
  go_ret2
  exact ⟨by first | rfl | (simp; done) | (simp [*]; done), by repeat (first | exact Drawn0.refl _ | apply Drawn0.step)⟩
 subst c7
 rw [if_pos rfl] at H
 obtain ⟨t420, A8, H⟩ := xO H
 (try dsimp only at H)
 simp only [Option.some.injEq, Prod.mk.injEq] at H
 obtain ⟨rfl, rfl⟩ := H
 go_enter Try.func61, Try.ntmps61
 go_wp2_with (first | (refine xG (some 9) Try.func262 #[.int .i64 a0] ?_; (with_reducible refine (impl_isNumber.calls a0 true _ A4.out).mono ?_); rintro e w' ⟨rfl, ⟨nd, rfl⟩⟩; refine ⟨_, rfl, ?_⟩) | (go_at_call 263; (with_reducible refine (impl_isShift.calls a1 a2 true _ A6.out).mono ?_); rintro e w' ⟨rfl, ⟨nd, rfl⟩⟩) | (refine xG (some 20) Try.func254 #[.int .i64 a0, .int .i64 a1, .int .i64 a2] ?_; (with_reducible refine (impl_shifted.calls k a0 a1 a2 t420 _ A8.out).mono ?_); rintro e w' ⟨rfl, ⟨nd, rfl⟩⟩; refine ⟨_, rfl, ?_⟩))
 go_ret2
 exact ⟨by first | rfl | (simp; done) | (simp [*]; done), by repeat (first | exact Drawn0.refl _ | apply Drawn0.step)⟩
/-! ### impl_FitNumber: function 62 -/
def impl_FitNumber.f (a0_0 : Int) (a0_1 : Bool) (a1 : Int) : Option (Int × Bool) := (impl_isWord.f a0_0 a0_1).bind fun t422 => (if t422 = true then ((impl_isNumber.f a1).bind fun t423 => (if t423 = true then ((impl_Word_fit.f a0_0 a0_1 a1).bind fun t424 => (some (t424, true))) else (some (0, false)))) else (some (0, false)))
set_option maxHeartbeats 8000000 in
set_option maxRecDepth 100000 in
theorem impl_FitNumber.calls (a0_0 : Int) (a0_1 : Bool) (a1 : Int) (r1 : Int) (r2 : Bool) (w : World) (h : impl_FitNumber.f a0_0 a0_1 a1 = some (r1, r2)) :
  Calls Try.prog 62 #[.agg #[.int .i64 a0_0, .bool a0_1], .int .i64 a1] w fun e w' => e = .returned (.tuple #[.int .i64 r1, .bool r2]) ∧ Below w.heap.size w w' := by
 have hu46 := Try.underlying46
 have HB := Aside0.mk (Below.refl w.heap.size w)
 have H : ((impl_isWord.f a0_0 a0_1).bind fun t422 => (if t422 = true then ((impl_isNumber.f a1).bind fun t423 => (if t423 = true then ((impl_Word_fit.f a0_0 a0_1 a1).bind fun t424 => (some (t424, true))) else (some (0, false)))) else (some (0, false)))) = some (r1, r2) := h
 clear h
 obtain ⟨t422, A3, H⟩ := xO H
 (try dsimp only at H)
 by_cases c4 : t422 = true
 rotate_left
 ·replace c4 := Bool.eq_false_iff.mpr c4
  subst c4
  rw [if_neg (show ¬ (false = true) by decide)] at H
  simp only [Option.some.injEq, Prod.mk.injEq] at H
  obtain ⟨rfl, rfl⟩ := H
  go_enter Try.func62, Try.ntmps62
  go_wp2_with (first | (refine xV 2 #[.int .i64 a0_0, .bool a0_1] 46 ?_; intro gb421 hg w16 hbox hb; have BK421 := Aside0.mk (hbox); have GW421 := Aside0.mk ((by rw [hg]; exact (below_size (xB HB.out)) : w.heap.size ≤ gb421)); have GE421 := Aside0.mk ((by rw [hg]; exact (below_size (xB HB.out)) : w.heap.size ≤ gb421)); replace HB := Aside0.mk (below_step (xB HB.out) hb); clear hb hbox hg; have hcz17_0 : w16.cell? ⟨gb421, 0, none⟩ = some (.int .i64 a0_0) := (blk_cell BK421.out 0).trans rfl; have hcz17_1 : w16.cell? ⟨gb421, 1, none⟩ = some (.bool a0_1) := (blk_cell BK421.out 1).trans rfl; have hfz17_0 := blk_frozen BK421.out 0; have hfz17_1 := blk_frozen BK421.out 1) | (refine xG (some 7) Try.func260 #[.agg #[.int .i64 a0_0, .bool a0_1]] ?_; (with_reducible refine (impl_isWord.calls a0_0 a0_1 false _ A3.out).mono ?_); rintro e w18 ⟨rfl, hb⟩; refine ⟨_, rfl, ?_⟩; replace BK421 := Aside0.mk (blk_below (g := gb421) (o := .cells #[.int .i64 a0_0, .bool a0_1] 46 (0, 0)) (by (with_reducible repeat (first | refine blk_drewN ?_ _ | refine blk_drew ?_ | refine blk_alloc ?_ _)); exact BK421.out) hb); replace HB := Aside0.mk (below_step (by repeat (first | (with_reducible first | exact HB.out | apply below_alloc | apply pw_below_drewN | apply below_drew1 | refine below_set ?_ GE421.out) | exact HB.out)) hb); (try clear hb); (try clear hb2); (try clear hk); (try clear hi)))
  go_ret2
  exact ⟨by first | rfl | (simp [errW_none, errW_some] <;> rfl) | (simp [*, errW_none, errW_some] <;> rfl), by repeat (first | (with_reducible first | exact HB.out | apply below_alloc | apply pw_below_drewN | apply below_drew1 | refine below_set ?_ GE421.out) | exact HB.out)⟩

 subst c4
 rw [if_pos rfl] at H
 obtain ⟨t423, A5, H⟩ := xO H
 (try dsimp only at H)
 by_cases c6 : t423 = true
 rotate_left
 ·replace c6 := Bool.eq_false_iff.mpr c6
  subst c6
  rw [if_neg (show ¬ (false = true) by decide)] at H
  simp only [Option.some.injEq, Prod.mk.injEq] at H
  obtain ⟨rfl, rfl⟩ := H
  go_enter Try.func62, Try.ntmps62
  go_wp2_with (first | (refine xV 2 #[.int .i64 a0_0, .bool a0_1] 46 ?_; intro gb421 hg w13 hbox hb; have BK421 := Aside0.mk (hbox); have GW421 := Aside0.mk ((by rw [hg]; exact (below_size (xB HB.out)) : w.heap.size ≤ gb421)); have GE421 := Aside0.mk ((by rw [hg]; exact (below_size (xB HB.out)) : w.heap.size ≤ gb421)); replace HB := Aside0.mk (below_step (xB HB.out) hb); clear hb hbox hg; have hcz14_0 : w13.cell? ⟨gb421, 0, none⟩ = some (.int .i64 a0_0) := (blk_cell BK421.out 0).trans rfl; have hcz14_1 : w13.cell? ⟨gb421, 1, none⟩ = some (.bool a0_1) := (blk_cell BK421.out 1).trans rfl; have hfz14_0 := blk_frozen BK421.out 0; have hfz14_1 := blk_frozen BK421.out 1) | (refine xG (some 7) Try.func260 #[.agg #[.int .i64 a0_0, .bool a0_1]] ?_; (with_reducible refine (impl_isWord.calls a0_0 a0_1 true _ A3.out).mono ?_); rintro e w15 ⟨rfl, hb⟩; refine ⟨_, rfl, ?_⟩; replace BK421 := Aside0.mk (blk_below (g := gb421) (o := .cells #[.int .i64 a0_0, .bool a0_1] 46 (0, 0)) (by (with_reducible repeat (first | refine blk_drewN ?_ _ | refine blk_drew ?_ | refine blk_alloc ?_ _)); exact BK421.out) hb); replace HB := Aside0.mk (below_step (by repeat (first | (with_reducible first | exact HB.out | apply below_alloc | apply pw_below_drewN | apply below_drew1 | refine below_set ?_ GE421.out) | exact HB.out)) hb); (try clear hb); (try clear hb2); (try clear hk); (try clear hi)) | (go_at_call 262; (with_reducible refine (impl_isNumber.calls a1 false _ A5.out).mono ?_); rintro e w' ⟨rfl, ⟨nd, rfl⟩⟩))
  go_ret2
  exact ⟨by first | rfl | (simp [errW_none, errW_some] <;> rfl) | (simp [*, errW_none, errW_some] <;> rfl), by repeat (first | (with_reducible first | exact HB.out | apply below_alloc | apply pw_below_drewN | apply below_drew1 | refine below_set ?_ GE421.out) | exact HB.out)⟩
 subst c6
 rw [if_pos rfl] at H
 obtain ⟨t424, A7, H⟩ := xO H
 (try dsimp only at H)
 simp only [Option.some.injEq, Prod.mk.injEq] at H
 obtain ⟨rfl, rfl⟩ := H
 go_enter Try.func62, Try.ntmps62
 go_wp2_with (first | (refine xV 2 #[.int .i64 a0_0, .bool a0_1] 46 ?_; intro gb421 hg w8 hbox hb; have BK421 := Aside0.mk (hbox); have GW421 := Aside0.mk ((by rw [hg]; exact (below_size (xB HB.out)) : w.heap.size ≤ gb421)); have GE421 := Aside0.mk ((by rw [hg]; exact (below_size (xB HB.out)) : w.heap.size ≤ gb421)); replace HB := Aside0.mk (below_step (xB HB.out) hb); clear hb hbox hg; have hcz9_0 : w8.cell? ⟨gb421, 0, none⟩ = some (.int .i64 a0_0) := (blk_cell BK421.out 0).trans rfl; have hcz9_1 : w8.cell? ⟨gb421, 1, none⟩ = some (.bool a0_1) := (blk_cell BK421.out 1).trans rfl; have hfz9_0 := blk_frozen BK421.out 0; have hfz9_1 := blk_frozen BK421.out 1) | (refine xG (some 7) Try.func260 #[.agg #[.int .i64 a0_0, .bool a0_1]] ?_; (with_reducible refine (impl_isWord.calls a0_0 a0_1 true _ A3.out).mono ?_); rintro e w10 ⟨rfl, hb⟩; refine ⟨_, rfl, ?_⟩; replace BK421 := Aside0.mk (blk_below (g := gb421) (o := .cells #[.int .i64 a0_0, .bool a0_1] 46 (0, 0)) (by (with_reducible repeat (first | refine blk_drewN ?_ _ | refine blk_drew ?_ | refine blk_alloc ?_ _)); exact BK421.out) hb); replace HB := Aside0.mk (below_step (by repeat (first | (with_reducible first | exact HB.out | apply below_alloc | apply pw_below_drewN | apply below_drew1 | refine below_set ?_ GE421.out) | exact HB.out)) hb); (try clear hb); (try clear hb2); (try clear hk); (try clear hi)) | (go_at_call 262; (with_reducible refine (impl_isNumber.calls a1 true _ A5.out).mono ?_); rintro e w' ⟨rfl, ⟨nd, rfl⟩⟩; have hcz11_0 : w10.cell? ⟨gb421, 0, none⟩ = some (.int .i64 a0_0) := (blk_cell BK421.out 0).trans rfl; have hcz11_1 : w10.cell? ⟨gb421, 1, none⟩ = some (.bool a0_1) := (blk_cell BK421.out 1).trans rfl; have hfz11_0 := blk_frozen BK421.out 0; have hfz11_1 := blk_frozen BK421.out 1) | (refine xG (some 16) Try.func253 #[.agg #[.int .i64 a0_0, .bool a0_1], .int .i64 a1] ?_; (with_reducible refine (impl_Word_fit.calls a0_0 a0_1 a1 t424 _ A7.out).mono ?_); rintro e w12 ⟨rfl, hb⟩; refine ⟨_, rfl, ?_⟩; replace BK421 := Aside0.mk (blk_below (g := gb421) (o := .cells #[.int .i64 a0_0, .bool a0_1] 46 (0, 0)) (by (with_reducible repeat (first | refine blk_drewN ?_ _ | refine blk_drew ?_ | refine blk_alloc ?_ _)); exact BK421.out) hb); replace HB := Aside0.mk (below_step (by repeat (first | (with_reducible first | exact HB.out | apply below_alloc | apply pw_below_drewN | apply below_drew1 | refine below_set ?_ GE421.out) | exact HB.out)) hb); (try clear hb); (try clear hb2); (try clear hk); (try clear hi)))
 go_ret2
 exact ⟨by first | rfl | (simp [errW_none, errW_some] <;> rfl) | (simp [*, errW_none, errW_some] <;> rfl), by repeat (first | (with_reducible first | exact HB.out | apply below_alloc | apply pw_below_drewN | apply below_drew1 | refine below_set ?_ GE421.out) | exact HB.out)⟩
/-! ### laws_iWrap: function 63 -/
def laws_iWrap.f (a0 : Int) (a1 : Int) : Option (Int) := if 0 ≤ a1 then (if (shl .i64 1 a1) = 0 then (none) else (if (Int.tmod (wrap64 ((Int.tmod a0 (shl .i64 1 a1)) + (shl .i64 1 a1))) (shl .i64 1 a1)) ≥ (wrap64 (Int.tdiv (shl .i64 1 a1) 2)) then (some (wrap64 ((Int.tmod (wrap64 ((Int.tmod a0 (shl .i64 1 a1)) + (shl .i64 1 a1))) (shl .i64 1 a1)) - (shl .i64 1 a1)))) else (some (Int.tmod (wrap64 ((Int.tmod a0 (shl .i64 1 a1)) + (shl .i64 1 a1))) (shl .i64 1 a1))))) else (none)
set_option maxHeartbeats 8000000 in
set_option maxRecDepth 100000 in
theorem laws_iWrap.calls (a0 : Int) (a1 : Int) (r : Int) (w : World) (h : laws_iWrap.f a0 a1 = some r) :
  Calls Try.prog 63 #[.int .i64 a0, .int .i64 a1] w fun e w' => e = .returned (.int .i64 r) ∧ Drawn0 w w' := by
 have H : (if 0 ≤ a1 then (if (shl .i64 1 a1) = 0 then (none) else (if (Int.tmod (wrap64 ((Int.tmod a0 (shl .i64 1 a1)) + (shl .i64 1 a1))) (shl .i64 1 a1)) ≥ (wrap64 (Int.tdiv (shl .i64 1 a1) 2)) then (some (wrap64 ((Int.tmod (wrap64 ((Int.tmod a0 (shl .i64 1 a1)) + (shl .i64 1 a1))) (shl .i64 1 a1)) - (shl .i64 1 a1)))) else (some (Int.tmod (wrap64 ((Int.tmod a0 (shl .i64 1 a1)) + (shl .i64 1 a1))) (shl .i64 1 a1))))) else (none)) = some r := h
 clear h
 by_cases c3 : 0 ≤ a1
 rotate_left
 ·rw [if_neg c3] at H
  exact absurd H (by simp)

 rw [if_pos c3] at H
 have c3b0 := eq_true c3
 have c3b1 : decide (0 ≤ a1) = true := decide_eq_true c3
 clear c3
 obtain ⟨ji4, hji4⟩ : ∃ j_ : Int, (shl .i64 1 a1) = j_ := ⟨_, rfl⟩
 replace H : (if (ji4) = 0 then (none) else (if (Int.tmod (wrap64 ((Int.tmod a0 (ji4)) + (ji4))) (ji4)) ≥ (wrap64 (Int.tdiv (ji4) 2)) then (some (wrap64 ((Int.tmod (wrap64 ((Int.tmod a0 (ji4)) + (ji4))) (ji4)) - (ji4)))) else (some (Int.tmod (wrap64 ((Int.tmod a0 (ji4)) + (ji4))) (ji4))))) = some r := by first | (rw [hji4] at H; exact H) | (simp only [hji4] at H ⊢; exact H)
 have hji4_ : (IntKind.i64.wrap (1 * 2 ^ min a1.toNat 64)) = ji4 := hji4
 have hji4z : a1 ≤ 64 → (IntKind.i64.wrap (1 * 2 ^ a1.toNat)) = ji4 := shl_small hji4
 have hji4u : (IntKind.i64.wrap (2 ^ min a1.toNat 64)) = ji4 := by have h_ := hji4_; rw [Int.one_mul] at h_; exact h_
 have hji4v : a1 ≤ 64 → (IntKind.i64.wrap (2 ^ a1.toNat)) = ji4 := fun hle_ => by have h_ := hji4z hle_; rw [Int.one_mul] at h_; exact h_
 have hji4y : (wrap64 (1 * 2 ^ min a1.toNat 64)) = ji4 := (i64_w _).symm.trans hji4_
 have hji4x : a1 ≤ 64 → (wrap64 (1 * 2 ^ a1.toNat)) = ji4 := fun h_ => (i64_w _).symm.trans (hji4z h_)
 by_cases c5 : (ji4) = 0
 ·rw [if_pos c5] at H
  exact absurd H (by simp)
 rw [if_neg c5] at H
 have c5b0 : ((ji4) == 0) = false := beq_eq_false_iff_ne.mpr c5
 have c5b1 : ((ji4) != 0) = true := bne_iff_ne.mpr c5
 by_cases c6 : (Int.tmod (wrap64 ((Int.tmod a0 (ji4)) + (ji4))) (ji4)) ≥ (wrap64 (Int.tdiv (ji4) 2))
 rotate_left
 ·rw [if_neg c6] at H
  have c6b0 : decide ((wrap64 (Int.tdiv (ji4) 2)) ≤ (Int.tmod (wrap64 ((Int.tmod a0 (ji4)) + (ji4))) (ji4))) = false := decide_eq_false c6
  clear c6
  obtain rfl := Option.some.inj H
  go_enter Try.func63, Try.ntmps63
  go_wp2
  go_ret
  exact ⟨by first | rfl | (simp; done) | (simp only [← hji4] <;> (first | rfl | simp)) | (simp [*]; done), by repeat (first | exact Drawn0.refl _ | apply Drawn0.step)⟩
 rw [if_pos c6] at H
 have c6b0 : decide ((wrap64 (Int.tdiv (ji4) 2)) ≤ (Int.tmod (wrap64 ((Int.tmod a0 (ji4)) + (ji4))) (ji4))) = true := decide_eq_true c6
 clear c6
 obtain rfl := Option.some.inj H
 go_enter Try.func63, Try.ntmps63
 go_wp2
 go_ret
 exact ⟨by first | rfl | (simp; done) | (simp only [← hji4] <;> (first | rfl | simp)) | (simp [*]; done), by repeat (first | exact Drawn0.refl _ | apply Drawn0.step)⟩
/-! ### impl_BitsNeeded: function 64 -/
mutual
def impl_BitsNeeded.j0 : Nat → List Int → Bool → Int → Bool → Option (Int × Bool)
 | 0, _, _, _, _ => none
 | k + 1, x0, x21, x426000, x426001 => if x21 = true then (some (0, false)) else ((impl_Word_ends.f x426000 x426001).bind fun bt428 => (impl_BitsNeeded.l0 k bt428.1 bt428.2 0 0 x0 (x0.length : Int) 0))
def impl_BitsNeeded.l0 : Nat → Int → Int → Int → Int → List Int → Int → Int → Option (Int × Bool)
 | 0, _, _, _, _, _, _, _ => none
 | k + 1, x6, x7, x8, x9, x27, x28, x29 => if x29 < x28 then (if 0 ≤ x29 then (if x29 < (x27.length : Int) then (impl_BitsNeeded.l0 k x6 x7 (wrap64 (x8 + (mn (wrap64 ((rd x27 x29) * x6)) (wrap64 ((rd x27 x29) * x7))))) (wrap64 (x9 + (mx (wrap64 ((rd x27 x29) * x6)) (wrap64 ((rd x27 x29) * x7))))) x27 x28 (wrap64 (x29 + 1))) else (none)) else (none)) else (impl_BitsNeeded.l1 k x8 x9 2)
def impl_BitsNeeded.l1 : Nat → Int → Int → Int → Option (Int × Bool)
 | 0, _, _, _ => none
 | k + 1, x8, x9, x12 => if x12 ≤ 40 then (if 0 ≤ (wrap64 (x12 - 1)) then (if x8 ≥ (wrap64 (-(shl .i64 1 (wrap64 (x12 - 1))))) then (if x9 < (shl .i64 1 (wrap64 (x12 - 1))) then (some (x12, true)) else (impl_BitsNeeded.l1 k x8 x9 (wrap64 (x12 + 1)))) else (impl_BitsNeeded.l1 k x8 x9 (wrap64 (x12 + 1)))) else (none)) else (some (0, false))
end
def impl_BitsNeeded.f (k : Nat) (l0 : List Int) (a1_0 : Int) (a1_1 : Bool) : Option (Int × Bool) := (impl_isWeights.f k l0).bind fun t426 => (if t426 = true then ((impl_isWord.f a1_0 a1_1).bind fun t427 => (impl_BitsNeeded.j0 k l0 (!t427) a1_0 a1_1)) else (impl_BitsNeeded.j0 k l0 true a1_0 a1_1))
theorem impl_BitsNeeded.mono_l : ∀ k, (∀ y0 y1 y2 y3, LeO (impl_BitsNeeded.j0 k y0 y1 y2 y3) (impl_BitsNeeded.j0 (k + 1) y0 y1 y2 y3)) ∧ (∀ y0 y1 y2 y3 y4 y5 y6, LeO (impl_BitsNeeded.l0 k y0 y1 y2 y3 y4 y5 y6) (impl_BitsNeeded.l0 (k + 1) y0 y1 y2 y3 y4 y5 y6)) ∧ (∀ y0 y1 y2, LeO (impl_BitsNeeded.l1 k y0 y1 y2) (impl_BitsNeeded.l1 (k + 1) y0 y1 y2))
 | 0 => ⟨fun _ _ _ _ r h => by simp [impl_BitsNeeded.j0] at h, fun _ _ _ _ _ _ _ r h => by simp [impl_BitsNeeded.l0] at h, fun _ _ _ r h => by simp [impl_BitsNeeded.l1] at h⟩
 | k + 1 => by
  obtain ⟨ih0, ih1, ih2⟩ := impl_BitsNeeded.mono_l k
  have m0 := @impl_isWeights.mono
  refine ⟨?_, ?_, ?_⟩ <;> intros
  ·unfold impl_BitsNeeded.j0; exact xM
  ·unfold impl_BitsNeeded.l0; exact xM
  ·unfold impl_BitsNeeded.l1; exact xM
theorem impl_BitsNeeded.mono : ∀ a0 a1 a2 k, LeO (impl_BitsNeeded.f k a0 a1 a2) (impl_BitsNeeded.f (k + 1) a0 a1 a2) := by
 intro a0 a1 a2 k
 obtain ⟨ih0, ih1, ih2⟩ := impl_BitsNeeded.mono_l k
 have m0 := @impl_isWeights.mono
 unfold impl_BitsNeeded.f
 exact xM
set_option maxHeartbeats 8000000 in
set_option maxRecDepth 100000 in
theorem impl_BitsNeeded.calls (k : Nat) (A0 : Option Addr) (c0 : Nat) (l0 : List Int) (a1_0 : Int) (a1_1 : Bool) (r1 : Int) (r2 : Bool) (w : World) (hr0 : Kd.C (Kd.int .i64) w A0 l0.length l0) (hc0 : l0.length ≤ c0) (h : impl_BitsNeeded.f k l0 a1_0 a1_1 = some (r1, r2)) :
  Calls Try.prog 64 #[.slice A0 l0.length c0, .agg #[.int .i64 a1_0, .bool a1_1]] w fun e w' => e = .returned (.tuple #[.int .i64 r1, .bool r2]) ∧ Below w.heap.size w w' := by
 have hu46 := Try.underlying46
 have HR0 := Aside0.mk hr0
 have HC0 := Aside0.mk hc0
 clear hr0 hc0
 have HB := Aside0.mk (Below.refl w.heap.size w)
 have H : ((impl_isWeights.f k l0).bind fun t426 => (if t426 = true then ((impl_isWord.f a1_0 a1_1).bind fun t427 => (impl_BitsNeeded.j0 k l0 (!t427) a1_0 a1_1)) else (impl_BitsNeeded.j0 k l0 true a1_0 a1_1))) = some (r1, r2) := h
 clear h
 have HC3 := Aside0.mk H
 clear H
 go_enter Try.func64, Try.ntmps64
 go_upto_region 1 with (first | (refine xV 3 #[.int .i64 a1_0, .bool a1_1] 46 ?_; intro gb425 hg w4 hbox hb; have BK425 := Aside0.mk (hbox); have GW425 := Aside0.mk ((by rw [hg]; exact (below_size (xB HB.out)) : w.heap.size ≤ gb425)); have GE425 := Aside0.mk ((by rw [hg]; exact (below_size (xB HB.out)) : w.heap.size ≤ gb425)); replace HB := Aside0.mk (below_step (xB HB.out) hb); clear hb hbox hg))
 (try simp only [Act.put, List.setIfInBounds_toArray, List.set_cons_zero, List.set_cons_succ])
 go_cut [21] (fun v21 wc => ∃ (kq : Nat) (x21_2 : Bool), v21 = .bool x21_2 ∧ Aside0 (impl_BitsNeeded.j0 kq l0 x21_2 a1_0 a1_1 = some (r1, r2)) ∧ Aside0 (kq ≤ k) ∧ Aside0 (wc.heap[gb425]? = some (.cells #[.int .i64 a1_0, .bool a1_1] 46 (0, 0))) ∧ Aside0 (Below w.heap.size w wc))
 case first => as_aux_lemma =>
  have H := HC3.out
  clear HC3
  obtain ⟨t426, A5, H⟩ := xO H
  (try dsimp only at H)
  by_cases c6 : t426 = true
  rotate_left
  ·replace c6 := Bool.eq_false_iff.mpr c6
   subst c6
   rw [if_neg (show ¬ (false = true) by decide)] at H
   have H' := Aside0.mk H
   clear H
   go_wp2_with (first | (refine xG (some 15) Try.func259 #[.slice A0 l0.length c0] ?_; (with_reducible refine (impl_isWeights.calls k _ _ l0 false _ ?side1 ?side2 A5.out).mono ?_); (case side1 => exact xC (Kd.C_below HR0.out HB.out)); (case side2 => exact HC0.out); rintro e w' ⟨rfl, ⟨nd, rfl⟩⟩; refine ⟨_, rfl, ?_⟩))
   go_meet
   case rel => exact ⟨_, (true), (by first | rfl | (simp; done) | (simp [*]; done)), H', ⟨by first | omega | exact Nat.le_refl _⟩, ⟨by (with_reducible repeat (first | refine blk_drewN ?_ _ | refine blk_drew ?_ | refine blk_alloc ?_ _)); exact BK425.out⟩, ⟨by repeat (first | (with_reducible first | exact HB.out | apply below_alloc | apply pw_below_drewN | apply below_drew1 | refine below_set ?_ GE425.out) | exact HB.out)⟩⟩
  subst c6
  rw [if_pos rfl] at H
  obtain ⟨t427, A7, H⟩ := xO H
  (try dsimp only at H)
  have H' := Aside0.mk H
  clear H
  go_wp2_with (first | (refine xG (some 15) Try.func259 #[.slice A0 l0.length c0] ?_; (with_reducible refine (impl_isWeights.calls k _ _ l0 true _ ?side1 ?side2 A5.out).mono ?_); (case side1 => exact xC (Kd.C_below HR0.out HB.out)); (case side2 => exact HC0.out); rintro e w' ⟨rfl, ⟨nd, rfl⟩⟩; refine ⟨_, rfl, ?_⟩; have hcz8_0 : w4.cell? ⟨gb425, 0, none⟩ = some (.int .i64 a1_0) := (blk_cell BK425.out 0).trans rfl; have hcz8_1 : w4.cell? ⟨gb425, 1, none⟩ = some (.bool a1_1) := (blk_cell BK425.out 1).trans rfl; have hfz8_0 := blk_frozen BK425.out 0; have hfz8_1 := blk_frozen BK425.out 1) | (go_at_call 260; (with_reducible refine (impl_isWord.calls a1_0 a1_1 t427 _ A7.out).mono ?_); rintro e w9 ⟨rfl, hb⟩; replace BK425 := Aside0.mk (blk_below (g := gb425) (o := .cells #[.int .i64 a1_0, .bool a1_1] 46 (0, 0)) (by (with_reducible repeat (first | refine blk_drewN ?_ _ | refine blk_drew ?_ | refine blk_alloc ?_ _)); exact BK425.out) hb); replace HB := Aside0.mk (below_step (by repeat (first | (with_reducible first | exact HB.out | apply below_alloc | apply pw_below_drewN | apply below_drew1 | refine below_set ?_ GE425.out) | exact HB.out)) hb); (try clear hb); (try clear hb2); (try clear hk); (try clear hi)))
  go_meet
  case rel => exact ⟨_, (!t427), (by first | rfl | (simp; done) | (simp [*]; done)), H', ⟨by first | omega | exact Nat.le_refl _⟩, ⟨by (with_reducible repeat (first | refine blk_drewN ?_ _ | refine blk_drew ?_ | refine blk_alloc ?_ _)); exact BK425.out⟩, ⟨by repeat (first | (with_reducible first | exact HB.out | apply below_alloc | apply pw_below_drewN | apply below_drew1 | refine below_set ?_ GE425.out) | exact HB.out)⟩⟩
 case rest => as_aux_lemma =>
  clear HC3
  obtain ⟨kq, x21_2, rfl, HA, HJ2, BK425, HB⟩ := hcut
  cases kq with
  | zero => exact absurd HA.out (by simp [impl_BitsNeeded.j0])
  | succ kj2 =>
   have H := HA.out
   clear HA
   simp only [impl_BitsNeeded.j0] at H
   by_cases c10 : x21_2 = true
   ·subst c10
    rw [if_pos rfl] at H
    simp only [Option.some.injEq, Prod.mk.injEq] at H
    obtain ⟨rfl, rfl⟩ := H
    go_wp2
    go_ret2
    exact ⟨by first | rfl | (simp [errW_none, errW_some] <;> rfl) | (simp [*, errW_none, errW_some] <;> rfl), by repeat (first | (with_reducible first | exact HB.out | apply below_alloc | apply pw_below_drewN | apply below_drew1 | refine below_set ?_ GE425.out) | exact HB.out)⟩
   replace c10 := Bool.eq_false_iff.mpr c10
   subst c10
   rw [if_neg (show ¬ (false = true) by decide)] at H
   replace H := Option.bind_eq_some_iff.mp H
   obtain ⟨⟨t428, t429⟩, A110, H⟩ := H
   (try dsimp only at H)
   have A11 := Aside0.mk A110
   clear A110
   have H' := Aside0.mk H
   clear H
   have hcz12_0 : wc.cell? ⟨gb425, 0, none⟩ = some (.int .i64 a1_0) := (blk_cell BK425.out 0).trans rfl
   have hcz12_1 : wc.cell? ⟨gb425, 1, none⟩ = some (.bool a1_1) := (blk_cell BK425.out 1).trans rfl
   have hfz12_0 := blk_frozen BK425.out 0
   have hfz12_1 := blk_frozen BK425.out 1
   go_wp2_with (first | (refine xG (some 24) Try.func261 #[.agg #[.int .i64 a1_0, .bool a1_1]] ?_; (with_reducible refine (impl_Word_ends.calls a1_0 a1_1 t428 t429 _ A11.out).mono ?_); rintro e w13 ⟨rfl, hb⟩; refine ⟨_, rfl, ?_⟩; replace BK425 := Aside0.mk (blk_below (g := gb425) (o := .cells #[.int .i64 a1_0, .bool a1_1] 46 (0, 0)) (by (with_reducible repeat (first | refine blk_drewN ?_ _ | refine blk_drew ?_ | refine blk_alloc ?_ _)); exact BK425.out) hb); replace HB := Aside0.mk (below_step (by repeat (first | (with_reducible first | exact HB.out | apply below_alloc | apply pw_below_drewN | apply below_drew1 | refine below_set ?_ GE425.out) | exact HB.out)) hb); (try clear hb); (try clear hb2); (try clear hk); (try clear hi)))
   go_loopg [8, 9, 29] kj2 (fun kq v8 v9 v29 w' => ∃ (x8_2 : Int) (x9_2 : Int) (x29_2 : Int), v8 = .int .i64 x8_2 ∧ v9 = .int .i64 x9_2 ∧ v29 = .int .i64 x29_2 ∧ Aside0 (impl_BitsNeeded.l0 kq t428 t429 x8_2 x9_2 l0 (l0.length : Int) x29_2 = some (r1, r2)) ∧ Aside0 (kq ≤ kj2) ∧ Aside0 (w'.heap[gb425]? = some (.cells #[.int .i64 a1_0, .bool a1_1] 46 (0, 0))) ∧ Aside0 (Below w.heap.size w w'))
   case atStart => exact ⟨(0), (0), (0), (by first | rfl | (simp; done) | (simp [*]; done)), (by first | rfl | (simp; done) | (simp [*]; done)), (by first | rfl | (simp; done) | (simp [*]; done)), H', ⟨Nat.le_refl _⟩, ⟨by (with_reducible repeat (first | refine blk_drewN ?_ _ | refine blk_drew ?_ | refine blk_alloc ?_ _)); exact BK425.out⟩, ⟨by repeat (first | (with_reducible first | exact HB.out | apply below_alloc | apply pw_below_drewN | apply below_drew1 | refine below_set ?_ GE425.out) | exact HB.out)⟩⟩
   case round =>
    clear H'
    try clear c10
    try clear hcz12_0
    try clear hcz12_1
    try clear hfz12_0
    try clear hfz12_1
    obtain ⟨x8_2, x9_2, x29_2, rfl, rfl, rfl, HA, HK2, BK425, HB⟩ := hrel
    cases gk with
    | zero => exact absurd HA.out (by simp [impl_BitsNeeded.l0])
    | succ k2 =>
     have H := HA.out
     clear HA
     simp only [impl_BitsNeeded.l0] at H
     by_cases c14 : x29_2 < (l0.length : Int)
     ·rw [if_pos c14] at H
      have c14b0 : decide (x29_2 < (l0.length : Int)) = true := decide_eq_true c14
      clear c14
      by_cases c15 : 0 ≤ x29_2
      rotate_left
      ·rw [if_neg c15] at H
       exact absurd H (by simp)
      rw [if_pos c15] at H
      have c15b0 : decide (0 ≤ x29_2) = true := decide_eq_true c15
      clear c15
      by_cases c16 : x29_2 < (l0.length : Int)
      rotate_left
      ·rw [if_neg c16] at H
       exact absurd H (by simp)
      rw [if_pos c16] at H
      have c16b0 : decide (x29_2 < (l0.length : Int)) = true := decide_eq_true c16
      clear c16
      obtain ⟨ji17, hji17⟩ : ∃ j_ : Int, (mn (wrap64 ((rd l0 x29_2) * t428)) (wrap64 ((rd l0 x29_2) * t429))) = j_ := ⟨_, rfl⟩
      replace H : (impl_BitsNeeded.l0 k2 t428 t429 (wrap64 (x8_2 + (ji17))) (wrap64 (x9_2 + (mx (wrap64 ((rd l0 x29_2) * t428)) (wrap64 ((rd l0 x29_2) * t429))))) l0 (l0.length : Int) (wrap64 (x29_2 + 1))) = some (r1, r2) := by first | (rw [hji17] at H; exact H) | (simp only [hji17] at H ⊢; exact H)
      have hji17_ : (if (wrap64 ((rd l0 x29_2) * t429)) < (wrap64 ((rd l0 x29_2) * t428)) then (wrap64 ((rd l0 x29_2) * t429)) else (wrap64 ((rd l0 x29_2) * t428))) = ji17 := hji17
      obtain ⟨ji18, hji18⟩ : ∃ j_ : Int, (mx (wrap64 ((rd l0 x29_2) * t428)) (wrap64 ((rd l0 x29_2) * t429))) = j_ := ⟨_, rfl⟩
      replace H : (impl_BitsNeeded.l0 k2 t428 t429 (wrap64 (x8_2 + (ji17))) (wrap64 (x9_2 + (ji18))) l0 (l0.length : Int) (wrap64 (x29_2 + 1))) = some (r1, r2) := by first | (rw [hji18] at H; exact H) | (simp only [hji18] at H ⊢; exact H)
      have hji18_ : (if (wrap64 ((rd l0 x29_2) * t428)) < (wrap64 ((rd l0 x29_2) * t429)) then (wrap64 ((rd l0 x29_2) * t429)) else (wrap64 ((rd l0 x29_2) * t428))) = ji18 := hji18
      have H' := Aside0.mk H
      clear H
      have p430 : 0 ≤ (x29_2 : Int) := of_decide_eq_true (by first | (with_reducible assumption) | assumption)
      have q430 : x29_2 < (l0.length : Int) := of_decide_eq_true (by first | (with_reducible assumption) | assumption)
      obtain ⟨ad430, e430, hx430_0⟩ := Kd.at_int HR0.out x29_2 p430 q430
      cases e430
      replace hx430_0 := (HB.out.cell (World.block_lt_of_cell? w _ hx430_0)).trans hx430_0
      replace p430 := eq_true p430
      replace q430 := eq_true q430
      go_wp2
      go_roundg k2
      case measure => have := HJ2.out; have := HK2.out; omega
      case rel => exact ⟨(wrap64 (x8_2 + (ji17))), (wrap64 (x9_2 + (ji18))), (wrap64 (x29_2 + 1)), (by first | rfl | (simp; done) | (simp only [← hji17] <;> (first | rfl | simp)) | (simp [*]; done)), (by first | rfl | (simp; done) | (simp only [← hji18] <;> (first | rfl | simp)) | (simp [*]; done)), (by first | rfl | (simp; done) | (simp [*]; done)), H', ⟨by have := HJ2.out; have := HK2.out; omega⟩, ⟨by (with_reducible repeat (first | refine blk_drewN ?_ _ | refine blk_drew ?_ | refine blk_alloc ?_ _)); exact BK425.out⟩, ⟨by repeat (first | (with_reducible first | exact HB.out | apply below_alloc | apply pw_below_drewN | apply below_drew1 | refine below_set ?_ GE425.out) | exact HB.out)⟩⟩
     rw [if_neg c14] at H
     have c14b0 : decide (x29_2 < (l0.length : Int)) = false := decide_eq_false c14
     clear c14
     have H' := Aside0.mk H
     clear H
     go_wp2
     go_loopg [12] k2 (fun kq v12 w' => ∃ (x12_3 : Int), v12 = .int .i64 x12_3 ∧ Aside0 (impl_BitsNeeded.l1 kq x8_2 x9_2 x12_3 = some (r1, r2)) ∧ Aside0 (kq ≤ k2) ∧ Aside0 (w'.heap[gb425]? = some (.cells #[.int .i64 a1_0, .bool a1_1] 46 (0, 0))) ∧ Aside0 (Below w.heap.size w w'))
     case atStart => exact ⟨(2), (by first | rfl | (simp; done) | (simp [*]; done)), H', ⟨Nat.le_refl _⟩, ⟨by (with_reducible repeat (first | refine blk_drewN ?_ _ | refine blk_drew ?_ | refine blk_alloc ?_ _)); exact BK425.out⟩, ⟨by repeat (first | (with_reducible first | exact HB.out | apply below_alloc | apply pw_below_drewN | apply below_drew1 | refine below_set ?_ GE425.out) | exact HB.out)⟩⟩
     case round =>
      clear H'
      try clear c14b0
      obtain ⟨x12_3, rfl, HA, HK3, BK425, HB⟩ := hrel
      cases gk with
      | zero => exact absurd HA.out (by simp [impl_BitsNeeded.l1])
      | succ k3 =>
       have H := HA.out
       clear HA
       simp only [impl_BitsNeeded.l1] at H
       by_cases c19 : x12_3 ≤ 40
       rotate_left
       ·rw [if_neg c19] at H
        have c19b0 : decide (x12_3 ≤ 40) = false := decide_eq_false c19
        clear c19
        simp only [Option.some.injEq, Prod.mk.injEq] at H
        obtain ⟨rfl, rfl⟩ := H
        go_wp2
        go_ret2
        exact ⟨by first | rfl | (simp [errW_none, errW_some] <;> rfl) | (simp [*, errW_none, errW_some] <;> rfl), by repeat (first | (with_reducible first | exact HB.out | apply below_alloc | apply pw_below_drewN | apply below_drew1 | refine below_set ?_ GE425.out) | exact HB.out)⟩

       rw [if_pos c19] at H
       have c19b0 : decide (x12_3 ≤ 40) = true := decide_eq_true c19
       clear c19
       obtain ⟨ji20, hji20⟩ : ∃ j_ : Int, (wrap64 (x12_3 - 1)) = j_ := ⟨_, rfl⟩
       replace H : (if 0 ≤ (ji20) then (if x8_2 ≥ (wrap64 (-(shl .i64 1 (ji20)))) then (if x9_2 < (shl .i64 1 (ji20)) then (some (x12_3, true)) else (impl_BitsNeeded.l1 k3 x8_2 x9_2 (wrap64 (x12_3 + 1)))) else (impl_BitsNeeded.l1 k3 x8_2 x9_2 (wrap64 (x12_3 + 1)))) else (none)) = some (r1, r2) := by first | (rw [hji20] at H; exact H) | (simp only [hji20] at H ⊢; exact H)
       have hji20w : (IntKind.i64.wrap (x12_3 - 1)) = ji20 := (i64_w _).trans hji20
       by_cases c21 : 0 ≤ (ji20)
       rotate_left
       ·rw [if_neg c21] at H
        exact absurd H (by simp)
       rw [if_pos c21] at H
       have c21b0 := eq_true c21
       have c21b1 : decide (0 ≤ (ji20)) = true := decide_eq_true c21
       clear c21
       obtain ⟨ji22, hji22⟩ : ∃ j_ : Int, (shl .i64 1 (ji20)) = j_ := ⟨_, rfl⟩
       replace H : (if x8_2 ≥ (wrap64 (-(ji22))) then (if x9_2 < (ji22) then (some (x12_3, true)) else (impl_BitsNeeded.l1 k3 x8_2 x9_2 (wrap64 (x12_3 + 1)))) else (impl_BitsNeeded.l1 k3 x8_2 x9_2 (wrap64 (x12_3 + 1)))) = some (r1, r2) := by first | (rw [hji22] at H; exact H) | (simp only [hji22] at H ⊢; exact H)
       have hji22_ : (IntKind.i64.wrap (1 * 2 ^ min (ji20).toNat 64)) = ji22 := hji22
       have hji22z : (ji20) ≤ 64 → (IntKind.i64.wrap (1 * 2 ^ (ji20).toNat)) = ji22 := shl_small hji22
       have hji22u : (IntKind.i64.wrap (2 ^ min (ji20).toNat 64)) = ji22 := by have h_ := hji22_; rw [Int.one_mul] at h_; exact h_
       have hji22v : (ji20) ≤ 64 → (IntKind.i64.wrap (2 ^ (ji20).toNat)) = ji22 := fun hle_ => by have h_ := hji22z hle_; rw [Int.one_mul] at h_; exact h_
       have hji22y : (wrap64 (1 * 2 ^ min (ji20).toNat 64)) = ji22 := (i64_w _).symm.trans hji22_
       have hji22x : (ji20) ≤ 64 → (wrap64 (1 * 2 ^ (ji20).toNat)) = ji22 := fun h_ => (i64_w _).symm.trans (hji22z h_)
       by_cases c23 : x8_2 ≥ (wrap64 (-(ji22)))
       rotate_left
       ·rw [if_neg c23] at H
        have c23b0 : decide ((wrap64 (-(ji22))) ≤ x8_2) = false := decide_eq_false c23
        clear c23
        have H' := Aside0.mk H
        clear H
        go_wp2
        go_roundg k3
        case measure => have := HJ2.out; have := HK2.out; have := HK3.out; omega
        case rel => exact ⟨(wrap64 (x12_3 + 1)), (by first | rfl | (simp; done) | (simp [*]; done)), H', ⟨by have := HJ2.out; have := HK2.out; have := HK3.out; omega⟩, ⟨by (with_reducible repeat (first | refine blk_drewN ?_ _ | refine blk_drew ?_ | refine blk_alloc ?_ _)); exact BK425.out⟩, ⟨by repeat (first | (with_reducible first | exact HB.out | apply below_alloc | apply pw_below_drewN | apply below_drew1 | refine below_set ?_ GE425.out) | exact HB.out)⟩⟩
       rw [if_pos c23] at H
       have c23b0 : decide ((wrap64 (-(ji22))) ≤ x8_2) = true := decide_eq_true c23
       clear c23
       by_cases c24 : x9_2 < (ji22)
       ·rw [if_pos c24] at H
        have c24b0 : decide (x9_2 < (ji22)) = true := decide_eq_true c24
        clear c24
        simp only [Option.some.injEq, Prod.mk.injEq] at H
        obtain ⟨rfl, rfl⟩ := H
        go_wp2
        go_ret2
        exact ⟨by first | rfl | (simp [errW_none, errW_some] <;> rfl) | (simp only [← hji20, ← hji22]; first | rfl | (simp [errW_none, errW_some] <;> rfl)) | (simp [*, errW_none, errW_some] <;> rfl), by repeat (first | (with_reducible first | exact HB.out | apply below_alloc | apply pw_below_drewN | apply below_drew1 | refine below_set ?_ GE425.out) | exact HB.out)⟩
       rw [if_neg c24] at H
       have c24b0 : decide (x9_2 < (ji22)) = false := decide_eq_false c24
       clear c24
       have H' := Aside0.mk H
       clear H
       go_wp2
       go_roundg k3
       case measure => have := HJ2.out; have := HK2.out; have := HK3.out; omega
       case rel => exact ⟨(wrap64 (x12_3 + 1)), (by first | rfl | (simp; done) | (simp [*]; done)), H', ⟨by have := HJ2.out; have := HK2.out; have := HK3.out; omega⟩, ⟨by (with_reducible repeat (first | refine blk_drewN ?_ _ | refine blk_drew ?_ | refine blk_alloc ?_ _)); exact BK425.out⟩, ⟨by repeat (first | (with_reducible first | exact HB.out | apply below_alloc | apply pw_below_drewN | apply below_drew1 | refine below_set ?_ GE425.out) | exact HB.out)⟩⟩
/-! ### spec_DrawBitsNeeded: function 65 -/
def spec_DrawBitsNeeded.f (k : Nat) (l0 : List Int) : Option (List Int × Int × Bool) := (spec_l1Cur_weights.f k l0 0 0).bind fun bt433 => ((spec_l1Cur_word.f l0 bt433.2.1 bt433.2.2).bind fun bt438 => (some (bt433.1, bt438.1, bt438.2.1)))
theorem spec_DrawBitsNeeded.mono : ∀ a0 k, LeO (spec_DrawBitsNeeded.f k a0) (spec_DrawBitsNeeded.f (k + 1) a0) := by
 intro a0 k
 have m0 := @spec_l1Cur_weights.mono
 unfold spec_DrawBitsNeeded.f
 exact xM
set_option maxHeartbeats 8000000 in
set_option maxRecDepth 100000 in
theorem spec_DrawBitsNeeded.calls (k : Nat) (A0 : Option Addr) (c0 : Nat) (l0 : List Int) (r1 : List Int) (r2 : Int) (r3 : Bool) (w : World) (hr0 : Kd.C (Kd.int .u8) w A0 l0.length l0) (hc0 : l0.length ≤ c0) (h : spec_DrawBitsNeeded.f k l0 = some (r1, r2, r3)) :
  Calls Try.prog 65 #[.slice A0 l0.length c0] w fun e w' => ∃ v0_ : Value, e = .returned (.tuple #[v0_, .agg #[.int .i64 r2, .bool r3]]) ∧ Kd.R (Kd.int .i64) 3 w' w.heap.size (fun _ => True) v0_ r1 ∧ Below w.heap.size w w' := by
 have hu46 := Try.underlying46
 have hu129 := Try.underlying129
 have HR0 := Aside0.mk hr0
 have HC0 := Aside0.mk hc0
 clear hr0 hc0
 have HB := Aside0.mk (Below.refl w.heap.size w)
 have H : ((spec_l1Cur_weights.f k l0 0 0).bind fun bt433 => ((spec_l1Cur_word.f l0 bt433.2.1 bt433.2.2).bind fun bt438 => (some (bt433.1, bt438.1, bt438.2.1)))) = some (r1, r2, r3) := h
 clear h
 replace H := Option.bind_eq_some_iff.mp H
 obtain ⟨⟨t433, t436, t437⟩, A20, H⟩ := H
 (try dsimp only at H)
 have A2 := Aside0.mk A20
 clear A20
 replace H := Option.bind_eq_some_iff.mp H
 obtain ⟨⟨t438, t439, t440, t441⟩, A30, H⟩ := H
 (try dsimp only at H)
 have A3 := Aside0.mk A30
 clear A30
 simp only [Option.some.injEq, Prod.mk.injEq] at H
 obtain ⟨rfl, rfl, rfl⟩ := H
 go_enter Try.func65, Try.ntmps65
 go_wp2_with (first | (refine xV 3 #[.int .i64 0, .bool false] 46 ?_; intro gb431 hg w4 hbox hb; have BK431 := Aside0.mk (hbox); have GW431 := Aside0.mk ((by rw [hg]; exact (below_size (xB HB.out)) : w.heap.size ≤ gb431)); have GE431 := Aside0.mk ((by rw [hg]; exact (below_size (xB HB.out)) : w.heap.size ≤ gb431)); replace HB := Aside0.mk (below_step (xB HB.out) hb); clear hb hbox hg) | (refine xV 7 #[.slice A0 l0.length c0, .int .i64 0, .int .u64 0] 129 ?_; intro gb432 hg w5 hbox hb; have HI432 := Aside0.mk ((show IsS129 w _ gb432 l0 0 0 from ⟨_, _, hbox, (by rw [hg]; exact (below_size (by repeat (first | (with_reducible first | exact HB.out | apply below_alloc | apply pw_below_drewN | apply below_drew1 | refine below_set ?_ GE431.out) | exact HB.out))) : w.heap.size ≤ gb432), HR0.out⟩)); replace HB := Aside0.mk (below_step (by repeat (first | (with_reducible first | exact HB.out | apply below_alloc | apply pw_below_drewN | apply below_drew1 | refine below_set ?_ GE431.out) | exact HB.out)) hb); have NB431_432 := Aside0.mk ((by rw [hg]; exact Nat.ne_of_lt (blk_lt (g := gb431) (o := .cells #[.int .i64 0, .bool false] 46 (0, 0)) (by (with_reducible repeat (first | refine blk_drewN ?_ _ | refine blk_drew ?_ | refine blk_alloc ?_ _)); exact BK431.out)) : gb431 ≠ gb432)); have NB432_431 := Aside0.mk ((by rw [hg]; exact Nat.ne_of_gt (blk_lt (g := gb431) (o := .cells #[.int .i64 0, .bool false] 46 (0, 0)) (by (with_reducible repeat (first | refine blk_drewN ?_ _ | refine blk_drew ?_ | refine blk_alloc ?_ _)); exact BK431.out)) : gb432 ≠ gb431)); replace BK431 := Aside0.mk (blk_below (g := gb431) (o := .cells #[.int .i64 0, .bool false] 46 (0, 0)) (by (with_reducible repeat (first | refine blk_drewN ?_ _ | refine blk_drew ?_ | refine blk_alloc ?_ _)); exact BK431.out) hb); clear hb hbox hg) | (refine xG (some 9) Try.func264 #[.pointer (some ⟨gb432, 0, none⟩)] ?_; (with_reducible refine (spec_l1Cur_weights.calls k gb432 l0 0 0 t433 t436 t437 w _ ?side1 ?side2 A2.out).mono ?_); (case side1 => repeat (first | (with_reducible first | exact HI432.out | apply IsS129.alloc | apply IsS129.drewN | apply IsS129.drew | apply IsS129.set_1 | apply IsS129.set_2 | refine IsS129.far ?_ NB432_431.out _) | exact HI432.out)); (case side2 => repeat (first | (with_reducible first | exact HB.out | apply below_alloc | apply pw_below_drewN | apply below_drew1 | refine below_set ?_ (IsS129.ge HI432.out) | refine below_set ?_ GE431.out) | exact HB.out)); rintro e w6 ⟨v434, rfl, ho0, hi, hb, hk⟩; refine ⟨_, rfl, ?_⟩; replace BK431 := Aside0.mk (KeepBut.blk hk (g' := gb431) (o := .cells #[.int .i64 0, .bool false] 46 (0, 0)) (by (with_reducible repeat (first | refine blk_drewN ?_ _ | refine blk_drew ?_ | refine blk_alloc ?_ _)); exact BK431.out) NB431_432.out (by simp)); have HO435 := Aside0.mk (Kd.R_lower ho0 (below_size (by repeat (first | (with_reducible first | exact HB.out | apply below_alloc | apply pw_below_drewN | apply below_drew1 | refine below_set ?_ (IsS129.ge HI432.out) | refine below_set ?_ GE431.out) | exact HB.out)))); replace HB := Aside0.mk (hb); replace HI432 := Aside0.mk (hi); (try clear hb); (try clear hb2); (try clear hk); (try clear hi); (try clear ho0)) | (refine xG (some 11) Try.func265 #[.pointer (some ⟨gb432, 0, none⟩)] ?_; (with_reducible refine (spec_l1Cur_word.calls gb432 l0 t436 t437 t438 t439 t440 t441 w _ ?side1 ?side2 A3.out).mono ?_); (case side1 => repeat (first | (with_reducible first | exact HI432.out | apply IsS129.alloc | apply IsS129.drewN | apply IsS129.drew | apply IsS129.set_1 | apply IsS129.set_2 | refine IsS129.far ?_ NB432_431.out _) | exact HI432.out)); (case side2 => repeat (first | (with_reducible first | exact HB.out | apply below_alloc | apply pw_below_drewN | apply below_drew1 | refine below_set ?_ (IsS129.ge HI432.out) | refine below_set ?_ GE431.out) | exact HB.out)); rintro e w7 ⟨rfl, hi, hb, hk⟩; refine ⟨_, rfl, ?_⟩; replace BK431 := Aside0.mk (KeepBut.blk hk (g' := gb431) (o := .cells #[.int .i64 0, .bool false] 46 (0, 0)) (by (with_reducible repeat (first | refine blk_drewN ?_ _ | refine blk_drew ?_ | refine blk_alloc ?_ _)); exact BK431.out) NB431_432.out (by simp)); replace HO435 := Aside0.mk (Kd.R_mono (Kd.R_keep (IsS129.apart (show IsS129 w _ gb432 l0 t436 t437 from by repeat (first | (with_reducible first | exact HI432.out | apply IsS129.alloc | apply IsS129.drewN | apply IsS129.drew | apply IsS129.set_1 | apply IsS129.set_2 | refine IsS129.far ?_ NB432_431.out _) | exact HI432.out)) (xR HO435.out) (by decide)) hk (fun _ h => h.2)) (fun _ h => h.1)); replace HB := Aside0.mk (hb); replace HI432 := Aside0.mk (hi); (try clear hb); (try clear hb2); (try clear hk); (try clear hi); have hnb8 := NB431_432.out; have hnc8 := NB432_431.out; have hcz9_0 : w7.cell? ⟨gb431, 0, none⟩ = some (.int .i64 0) := (blk_cell BK431.out 0).trans rfl; have hcz9_1 : w7.cell? ⟨gb431, 1, none⟩ = some (.bool false) := (blk_cell BK431.out 1).trans rfl; have hfz9_0 := blk_frozen BK431.out 0; have hfz9_1 := blk_frozen BK431.out 1))
 refine bodyPost_ret (results_tc rfl _ _ gb431 46 #[.int .i64 t438, .bool t439] (0, 0) _ rfl (by (with_reducible repeat (first | refine blk_drewN ?_ _ | refine blk_drew ?_ | refine blk_alloc ?_ _)); refine blk_put (cs := #[.int .i64 t438, .bool false]) ?_ 1 _ rfl; (with_reducible repeat (first | refine blk_drewN ?_ _ | refine blk_drew ?_ | refine blk_alloc ?_ _)); refine blk_put (cs := #[.int .i64 0, .bool false]) ?_ 0 _ rfl; (with_reducible repeat (first | refine blk_drewN ?_ _ | refine blk_drew ?_ | refine blk_alloc ?_ _)); exact BK431.out) Try.underlying46 rfl (by kernel_rfl)) rfl ?_
 exact ⟨_, by first | rfl | (simp [errW_none, errW_some] <;> rfl) | (simp [*, errW_none, errW_some] <;> rfl), by (with_reducible repeat (first | apply Kd.R_alloc | apply Kd.R_drewN | apply Kd.R_drew)); exact Kd.R_mono (Kd.R_far (p := ⟨gb431, 1, none⟩) (Kd.R_far (p := ⟨gb431, 0, none⟩) (Kd.R_types HO435.out BK431.out (by decide)) (fun _ hk => hk.2) (.int .i64 t438)) (fun _ hk => hk.2) (.bool t439)) (fun _ hk => trivial), by repeat (first | (with_reducible first | exact HB.out | apply below_alloc | apply pw_below_drewN | apply below_drew1 | refine below_set ?_ (IsS129.ge HI432.out) | refine below_set ?_ GE431.out) | exact HB.out)⟩

end Go.Proofs.Ytjplcongellcmaa.PFnFiltersInWords
