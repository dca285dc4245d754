/- What each Go function that the statement FnFirstRuns reaches answers, proved call by call. No condition beyond those that the theorems print. (Written by wip/tools/xprint.py of this repo, over the kit's print.) -/
import Derived.Test.YtjplcongellcmaaPFnFirstRunsx0
import Derived.Test.YtjplcongellcmaaPFnFirstRunsx1
import Derived.Test.YtjplcongellcmaaPFnFirstRunsx4
namespace Go.Proofs.Ytjplcongellcmaa.PFnFirstRuns
open Go.RowKit Go.Proofs.YtjplcongellcmaaW.PrintWords Go.Proofs.YtjplcongellcmaaW.PrintLast Go.Proofs.YtjplcongellcmaaW.PrintMore
attribute [local go_sem] max2_int min2_int max_two min_two max_three min_three max_four min_four   -- for this text's walks alone
set_option linter.unusedVariables false
set_option linter.unusedSimpArgs false
def x5a0 : Array Bool := #[Zz,Zz,Zz,Zz,Zz,Zz,Zz,Zz]
def x5a1 : Array Bool := #[Yy,Zz,Zz,Zz,Zz,Zz,Zz,Zz]
def x5a2 : Array Bool := #[Yy,Zz,Zz,Yy,Zz,Zz,Zz,Zz]
def x5a3 : Array Bool := #[Yy,Zz,Zz,Yy,Yy,Zz,Zz,Zz]
def x5a4 : Array Bool := #[Yy,Yy,Zz,Yy,Yy,Zz,Zz,Zz]
def x5a5 : Array Bool := #[Yy,Yy,Yy,Yy,Yy,Zz,Zz,Zz]
def x5a6 : Array Bool := #[Yy,Yy,Yy,Yy,Yy,Yy,Zz,Zz]
def x5a7 : Array Bool := #[Yy,Yy,Yy,Yy,Yy,Yy,Yy,Zz]
def x5a8 : Array Bool := #[Yy,Yy,Yy,Yy,Yy,Yy,Yy,Yy]

/-! ### slices_IndexFunc_int_int_impl_isSignal_c1: function 423 -/
def slices_IndexFunc_int_int_impl_isSignal_c1.l0 : Nat → List Int → Int → Int → Option (Int)
 | 0, _, _, _ => none
 | k + 1, x0, x7, x8 => if x8 < x7 then (if 0 ≤ x8 then (if x8 < (x0.length : Int) then ((impl_isSignal_c1.f (rd x0 x8)).bind fun t287 => (if t287 = true then (some x8) else (slices_IndexFunc_int_int_impl_isSignal_c1.l0 k x0 x7 (wrap64 (x8 + 1))))) else (none)) else (none)) else (some (-1))
def slices_IndexFunc_int_int_impl_isSignal_c1.f (k : Nat) (l0 : List Int) : Option (Int) := slices_IndexFunc_int_int_impl_isSignal_c1.l0 k l0 (l0.length : Int) 0
theorem slices_IndexFunc_int_int_impl_isSignal_c1.mono_l : ∀ k, (∀ y0 y1 y2, LeO (slices_IndexFunc_int_int_impl_isSignal_c1.l0 k y0 y1 y2) (slices_IndexFunc_int_int_impl_isSignal_c1.l0 (k + 1) y0 y1 y2))
 | 0 => fun _ _ _ r h => by simp [slices_IndexFunc_int_int_impl_isSignal_c1.l0] at h
 | k + 1 => by
  have ih0 := slices_IndexFunc_int_int_impl_isSignal_c1.mono_l k
  intros
  unfold slices_IndexFunc_int_int_impl_isSignal_c1.l0
  exact xM
theorem slices_IndexFunc_int_int_impl_isSignal_c1.mono : ∀ a0 k, LeO (slices_IndexFunc_int_int_impl_isSignal_c1.f k a0) (slices_IndexFunc_int_int_impl_isSignal_c1.f (k + 1) a0) := by
 intro a0 k
 have ih0 := slices_IndexFunc_int_int_impl_isSignal_c1.mono_l k
 unfold slices_IndexFunc_int_int_impl_isSignal_c1.f
 exact xM
set_option maxHeartbeats 200000000 in
set_option maxRecDepth 100000 in
theorem slices_IndexFunc_int_int_impl_isSignal_c1.calls (k : Nat) (A0 : Option Addr) (c0 : Nat) (l0 : List Int) (r : Int) (w : World) (hr0 : Kd.C (Kd.int .i64) w A0 l0.length l0) (hc0 : l0.length ≤ c0) (h : slices_IndexFunc_int_int_impl_isSignal_c1.f k l0 = some r) :
  Calls Try.prog 398 #[.slice A0 l0.length c0, .func (.func 370) #[] #[]] w fun e w' => e = .returned (.int .i64 r) ∧ Drawn0 w w' := by
 have HR0 := xA hr0
 have HC0 := xA hc0
 clear hr0 hc0
 have H : (slices_IndexFunc_int_int_impl_isSignal_c1.l0 k l0 (l0.length : Int) 0) = some r := h
 clear h
 have H' := xA H
 clear H
 go_enter Try.func398, Try.ntmps398
 go_wp2
 go_loopg [8] k (fun kq v8 w' => ∃ (x8_1 : Int), v8 = .int .i64 x8_1 ∧ Aside0 (slices_IndexFunc_int_int_impl_isSignal_c1.l0 kq l0 (l0.length : Int) x8_1 = some r) ∧ Aside0 (kq ≤ k) ∧ Drawn0 w w')
 case atStart => exact ⟨(0), xs, H', ⟨Nat.le_refl _⟩, by repeat (first | exact Drawn0.refl _ | apply Drawn0.step)⟩
 case round =>
  clear H'
  obtain ⟨x8_1, rfl, HA, HK1, ⟨m1, rfl⟩⟩ := hrel
  cases gk with
  | zero => exact absurd HA.out (by simp [slices_IndexFunc_int_int_impl_isSignal_c1.l0])
  | succ k1 =>
   have H := HA.out
   clear HA
   simp only [slices_IndexFunc_int_int_impl_isSignal_c1.l0] at H
   by_cases c2 : x8_1 < (l0.length : Int)
   rotate_left
   ·rw [if_neg c2] at H
    have c2b0 : decide (x8_1 < (l0.length : Int)) = false := decide_eq_false c2
    clear c2
    obtain rfl := Option.some.inj H
    go_wp2
    go_ret
    exact ⟨by first | rfl | (simp; done) | (simp [*]; done), by repeat (first | exact Drawn0.refl _ | apply Drawn0.step)⟩

   rw [if_pos c2] at H
   have c2b0 : decide (x8_1 < (l0.length : Int)) = true := decide_eq_true c2
   clear c2
   by_cases c3 : 0 ≤ x8_1
   rotate_left
   ·rw [if_neg c3] at H
    exact absurd H (by simp)
   rw [if_pos c3] at H
   have c3b0 : decide (0 ≤ x8_1) = true := decide_eq_true c3
   clear c3
   by_cases c4 : x8_1 < (l0.length : Int)
   rotate_left
   ·rw [if_neg c4] at H
    exact absurd H (by simp)
   rw [if_pos c4] at H
   have c4b0 : decide (x8_1 < (l0.length : Int)) = true := decide_eq_true c4
   clear c4
   obtain ⟨t287, A5, H⟩ := xO H
   (try dsimp only at H)
   by_cases c6 : t287 = true
   ·subst c6
    rw [if_pos rfl] at H
    obtain rfl := Option.some.inj H
    have p286 : 0 ≤ (x8_1 : Int) := of_decide_eq_true (by first | (with_reducible assumption) | assumption)
    have q286 : x8_1 < (l0.length : Int) := of_decide_eq_true (by first | (with_reducible assumption) | assumption)
    obtain ⟨ad286, e286, hx286_0⟩ := Kd.at_int HR0.out x8_1 p286 q286
    cases e286
    replace p286 := eq_true p286
    replace q286 := eq_true q286
    go_wp2_with (first | (go_at_call 370; (with_reducible refine (impl_isSignal_c1.calls (rd l0 x8_1) true _ A5.out).mono ?_); rintro e w' ⟨rfl, ⟨nd, rfl⟩⟩))
    go_ret
    exact ⟨by first | rfl | (simp; done) | (simp [*]; done), by repeat (first | exact Drawn0.refl _ | apply Drawn0.step)⟩
   replace c6 := Bool.eq_false_iff.mpr c6
   subst c6
   rw [if_neg (show ¬ (false = true) by decide)] at H
   have H' := xA H
   clear H
   have p286 : 0 ≤ (x8_1 : Int) := of_decide_eq_true (by first | (with_reducible assumption) | assumption)
   have q286 : x8_1 < (l0.length : Int) := of_decide_eq_true (by first | (with_reducible assumption) | assumption)
   obtain ⟨ad286, e286, hx286_0⟩ := Kd.at_int HR0.out x8_1 p286 q286
   cases e286
   replace p286 := eq_true p286
   replace q286 := eq_true q286
   go_wp2_with (first | (go_at_call 370; (with_reducible refine (impl_isSignal_c1.calls (rd l0 x8_1) false _ A5.out).mono ?_); rintro e w' ⟨rfl, ⟨nd, rfl⟩⟩))
   go_roundg k1
   case measure => have := HK1.out; omega
   case rel => exact ⟨(wrap64 (x8_1 + 1)), xs, H', ⟨by have := HK1.out; omega⟩, by repeat (first | exact Drawn0.refl _ | apply Drawn0.step)⟩
/-! ### slices_ContainsFunc_int_int_impl_isSignal_c1: function 422 -/
def slices_ContainsFunc_int_int_impl_isSignal_c1.f (k : Nat) (l0 : List Int) : Option (Bool) := (slices_IndexFunc_int_int_impl_isSignal_c1.f k l0).bind fun t288 => (some (decide (t288 ≥ 0)))
theorem slices_ContainsFunc_int_int_impl_isSignal_c1.mono : ∀ a0 k, LeO (slices_ContainsFunc_int_int_impl_isSignal_c1.f k a0) (slices_ContainsFunc_int_int_impl_isSignal_c1.f (k + 1) a0) := by
 intro a0 k
 have m0 := @slices_IndexFunc_int_int_impl_isSignal_c1.mono
 unfold slices_ContainsFunc_int_int_impl_isSignal_c1.f
 exact xM
set_option maxHeartbeats 200000000 in
set_option maxRecDepth 100000 in
theorem slices_ContainsFunc_int_int_impl_isSignal_c1.calls (k : Nat) (A0 : Option Addr) (c0 : Nat) (l0 : List Int) (r : Bool) (w : World) (hr0 : Kd.C (Kd.int .i64) w A0 l0.length l0) (hc0 : l0.length ≤ c0) (h : slices_ContainsFunc_int_int_impl_isSignal_c1.f k l0 = some r) :
  Calls Try.prog 369 #[.slice A0 l0.length c0, .func (.func 370) #[] #[]] w fun e w' => e = .returned (.bool r) ∧ Drawn0 w w' := by
 have HR0 := xA hr0
 have HC0 := xA hc0
 clear hr0 hc0
 have H : ((slices_IndexFunc_int_int_impl_isSignal_c1.f k l0).bind fun t288 => (some (decide (t288 ≥ 0)))) = some r := h
 clear h
 obtain ⟨t288, A2, H⟩ := xO H
 (try dsimp only at H)
 obtain rfl := Option.some.inj H
 go_enter Try.func369, Try.ntmps369
 go_wp2_with (first | (refine xG (some 7) Try.func398 #[.slice A0 l0.length c0, .func (.func 370) #[] #[]] ?_; (with_reducible refine (slices_IndexFunc_int_int_impl_isSignal_c1.calls k _ _ l0 t288 _ ?side1 ?side2 A2.out).mono ?_); (case side1 => exact xC HR0.out); (case side2 => exact HC0.out); rintro e w' ⟨rfl, ⟨nd, rfl⟩⟩; refine ⟨_, rfl, ?_⟩))
 go_ret
 exact ⟨by first | rfl | (simp; done) | (simp [*]; done), by repeat (first | exact Drawn0.refl _ | apply Drawn0.step)⟩

/-! ### impl_isSignal: function 233 -/
def impl_isSignal.f (k : Nat) (l0 : List Int) : Option (Bool) := if (l0.length : Int) ≤ 64 then ((slices_ContainsFunc_int_int_impl_isSignal_c1.f k l0).bind fun t289 => (some (!t289))) else (some false)
theorem impl_isSignal.mono : ∀ a0 k, LeO (impl_isSignal.f k a0) (impl_isSignal.f (k + 1) a0) := by
 intro a0 k
 have m0 := @slices_ContainsFunc_int_int_impl_isSignal_c1.mono
 unfold impl_isSignal.f
 exact xM
set_option maxHeartbeats 200000000 in
set_option maxRecDepth 100000 in
theorem impl_isSignal.calls (k : Nat) (A0 : Option Addr) (c0 : Nat) (l0 : List Int) (r : Bool) (w : World) (hr0 : Kd.C (Kd.int .i64) w A0 l0.length l0) (hc0 : l0.length ≤ c0) (h : impl_isSignal.f k l0 = some r) :
  Calls Try.prog 233 #[.slice A0 l0.length c0] w fun e w' => e = .returned (.bool r) ∧ Drawn0 w w' := by
 have HR0 := xA hr0
 have HC0 := xA hc0
 clear hr0 hc0
 have H : (if (l0.length : Int) ≤ 64 then ((slices_ContainsFunc_int_int_impl_isSignal_c1.f k l0).bind fun t289 => (some (!t289))) else (some false)) = some r := h
 clear h
 by_cases c2 : (l0.length : Int) ≤ 64
 rotate_left
 ·rw [if_neg c2] at H
  have c2b0 : decide ((l0.length : Int) ≤ 64) = false := decide_eq_false c2
  have c2b1 : decide (l0.length ≤ 64) = false := decide_eq_false (by omega)
  clear c2
  obtain rfl := Option.some.inj H
  go_enter Try.func233, Try.ntmps233
  go_wp2
  go_ret
  exact ⟨by first | rfl | (simp; done) | (simp [*]; done), by repeat (first | exact Drawn0.refl _ | apply Drawn0.step)⟩

 rw [if_pos c2] at H
 have c2b0 : decide ((l0.length : Int) ≤ 64) = true := decide_eq_true c2
 have c2b1 : decide (l0.length ≤ 64) = true := decide_eq_true (by omega)
 clear c2
 obtain ⟨t289, A3, H⟩ := xO H
 (try dsimp only at H)
 obtain rfl := Option.some.inj H
 go_enter Try.func233, Try.ntmps233
 go_wp2_with (first | (go_at_call 369; (with_reducible refine (slices_ContainsFunc_int_int_impl_isSignal_c1.calls k _ _ l0 t289 _ ?side1 ?side2 A3.out).mono ?_); (case side1 => exact xC HR0.out); (case side2 => exact HC0.out); rintro e w' ⟨rfl, ⟨nd, rfl⟩⟩))
 go_ret
 exact ⟨by first | rfl | (simp; done) | (simp [*]; done), by repeat (first | exact Drawn0.refl _ | apply Drawn0.step)⟩
/-! ### impl_Word_has: function 291 -/
def impl_Word_has.f (a0_0 : Int) (a0_1 : Bool) (a1 : Int) : Option (Bool) := (impl_Word_ends.f a0_0 a0_1).bind fun bt291 => ((impl_in.f a1 bt291.1 bt291.2).bind fun t293 => (some t293))
set_option maxHeartbeats 200000000 in
set_option maxRecDepth 100000 in
theorem impl_Word_has.calls (a0_0 : Int) (a0_1 : Bool) (a1 : Int) (r : Bool) (w : World) (h : impl_Word_has.f a0_0 a0_1 a1 = some r) :
  Calls Try.prog 291 #[.agg #[.int .i64 a0_0, .bool a0_1], .int .i64 a1] w fun e w' => e = .returned (.bool r) ∧ Below w.heap.size w w' := by
 have hu46 := Try.underlying46
 have HB := xA (Below.refl w.heap.size w)
 have H : ((impl_Word_ends.f a0_0 a0_1).bind fun bt291 => ((impl_in.f a1 bt291.1 bt291.2).bind fun t293 => (some t293))) = some r := h
 clear h
 replace H := Option.bind_eq_some_iff.mp H
 obtain ⟨⟨t291, t292⟩, A30, H⟩ := H
 (try dsimp only at H)
 have A3 := xA A30
 clear A30
 obtain ⟨t293, A4, H⟩ := xO H
 (try dsimp only at H)
 obtain rfl := Option.some.inj H
 go_enter Try.func291, Try.ntmps291
 go_wp2_with (first | (refine xq rfl ?_; first | (refine xG (some 9) Try.func261 #[.agg #[.int .i64 a0_0, .bool a0_1]] ?_; (with_reducible refine (impl_Word_ends.calls a0_0 a0_1 t291 t292 _ A3.out).mono ?_); rintro e w7 ⟨rfl, hb⟩; refine ⟨_, rfl, ?_⟩; replace BK290 := xkb BK290 hb; replace HB := xA (below_step (xB1 GE290.out HB.out) hb); (try clear hb)) | (refine xG (some 15) Try.func223 #[.int .i64 a1, .int .i64 t291, .int .i64 t292] ?_; (with_reducible refine (impl_in.calls a1 t291 t292 t293 _ A4.out).mono ?_); rintro e w' ⟨rfl, ⟨nd, rfl⟩⟩; refine ⟨_, rfl, ?_⟩)) | (refine xg 2 rfl ?_; refine xV 2 #[.int .i64 a0_0, .bool a0_1] 46 ?_; intro gb290 hg w5 hbox hb; have BK290 := xA (hbox); have GW290 := xgw hg (below_size (xB HB.out)); have GE290 := GW290; replace HB := xA (below_step (xB HB.out) hb); clear hb hbox hg; obtain ⟨hcz6_0, hcz6_1, hfz6_0, hfz6_1⟩ := xZ2 BK290.out))
 go_ret
 exact ⟨xr, xB1 GE290.out HB.out⟩

/-! ### impl_isFactor: function 384 -/
def impl_isFactor.f (a0 : Int) : Option (Bool) := (impl_in.f a0 (-1024) 1024).bind fun t294 => (some t294)
set_option maxHeartbeats 200000000 in
set_option maxRecDepth 100000 in
theorem impl_isFactor.calls (a0 : Int) (r : Bool) (w : World) (h : impl_isFactor.f a0 = some r) :
  Calls Try.prog 384 #[.int .i64 a0] w fun e w' => e = .returned (.bool r) ∧ Drawn0 w w' := by
 have H : ((impl_in.f a0 (-1024) 1024).bind fun t294 => (some t294)) = some r := h
 clear h
 obtain ⟨t294, A2, H⟩ := xO H
 (try dsimp only at H)
 obtain rfl := Option.some.inj H
 go_enter Try.func384, Try.ntmps384
 go_wp2_with (first | (refine xG (some 4) Try.func223 #[.int .i64 a0, .int .i64 (-1024), .int .i64 1024] ?_; (with_reducible refine (impl_in.calls a0 (-1024) 1024 t294 _ A2.out).mono ?_); rintro e w' ⟨rfl, ⟨nd, rfl⟩⟩; refine ⟨_, rfl, ?_⟩))
 go_ret
 exact ⟨by first | rfl | (simp; done) | (simp [*]; done), by repeat (first | exact Drawn0.refl _ | apply Drawn0.step)⟩

/-! ### impl_isScale: function 385 -/
def impl_isScale.f (a0 : Int) (a1 : Int) : Option (Bool) := (impl_in.f a0 0 10).bind fun t295 => (if t295 = true then ((impl_in.f a1 0 2).bind fun t296 => (some t296)) else (some false))
set_option maxHeartbeats 200000000 in
set_option maxRecDepth 100000 in
theorem impl_isScale.calls (a0 : Int) (a1 : Int) (r : Bool) (w : World) (h : impl_isScale.f a0 a1 = some r) :
  Calls Try.prog 385 #[.int .i64 a0, .int .i64 a1] w fun e w' => e = .returned (.bool r) ∧ Drawn0 w w' := by
 have H : ((impl_in.f a0 0 10).bind fun t295 => (if t295 = true then ((impl_in.f a1 0 2).bind fun t296 => (some t296)) else (some false))) = some r := h
 clear h
 obtain ⟨t295, A3, H⟩ := xO H
 (try dsimp only at H)
 by_cases c4 : t295 = true
 rotate_left
 ·replace c4 := Bool.eq_false_iff.mpr c4
  subst c4
  rw [if_neg (show ¬ (false = true) by decide)] at H
  obtain rfl := Option.some.inj H
  go_enter Try.func385, Try.ntmps385
  go_wp2_with (first | (refine xG (some 6) Try.func223 #[.int .i64 a0, .int .i64 0, .int .i64 10] ?_; (with_reducible refine (impl_in.calls a0 0 10 false _ A3.out).mono ?_); rintro e w' ⟨rfl, ⟨nd, rfl⟩⟩; refine ⟨_, rfl, ?_⟩))
  go_ret
  exact ⟨by first | rfl | (simp; done) | (simp [*]; done), by repeat (first | exact Drawn0.refl _ | apply Drawn0.step)⟩

 subst c4
 rw [if_pos rfl] at H
 obtain ⟨t296, A5, H⟩ := xO H
 (try dsimp only at H)
 obtain rfl := Option.some.inj H
 go_enter Try.func385, Try.ntmps385
 go_wp2_with (first | (refine xG (some 6) Try.func223 #[.int .i64 a0, .int .i64 0, .int .i64 10] ?_; (with_reducible refine (impl_in.calls a0 0 10 true _ A3.out).mono ?_); rintro e w' ⟨rfl, ⟨nd, rfl⟩⟩; refine ⟨_, rfl, ?_⟩) | (go_at_call 223; (with_reducible refine (impl_in.calls a1 0 2 t296 _ A5.out).mono ?_); rintro e w' ⟨rfl, ⟨nd, rfl⟩⟩))
 go_ret
 exact ⟨by first | rfl | (simp; done) | (simp [*]; done), by repeat (first | exact Drawn0.refl _ | apply Drawn0.step)⟩
/-! ### impl_isFirst: function 294 -/
def impl_isFirst.f (a0_0 : Int) (a0_1 : Int) (a0_2 : Int) (a0_3 : Int) (a0_4 : Bool) : Option (Bool) := (impl_isFactor.f a0_0).bind fun t298 => (if t298 = true then ((impl_isScale.f a0_1 a0_2).bind fun t299 => (if t299 = true then ((impl_isWord.f a0_3 a0_4).bind fun t300 => (some t300)) else (some false))) else (some false))
set_option maxHeartbeats 200000000 in
set_option maxRecDepth 100000 in
theorem impl_isFirst.calls (a0_0 : Int) (a0_1 : Int) (a0_2 : Int) (a0_3 : Int) (a0_4 : Bool) (r : Bool) (w : World) (h : impl_isFirst.f a0_0 a0_1 a0_2 a0_3 a0_4 = some r) :
  Calls Try.prog 294 #[.agg #[.int .i64 a0_0, .int .i64 a0_1, .int .i64 a0_2, .int .i64 a0_3, .bool a0_4]] w fun e w' => e = .returned (.bool r) ∧ Below w.heap.size w w' := by
 have hu62 := Try.underlying62
 have hu46 := Try.underlying46
 have HB := xA (Below.refl w.heap.size w)
 have H : ((impl_isFactor.f a0_0).bind fun t298 => (if t298 = true then ((impl_isScale.f a0_1 a0_2).bind fun t299 => (if t299 = true then ((impl_isWord.f a0_3 a0_4).bind fun t300 => (some t300)) else (some false))) else (some false))) = some r := h
 clear h
 obtain ⟨t298, A2, H⟩ := xO H
 (try dsimp only at H)
 by_cases c3 : t298 = true
 rotate_left
 ·replace c3 := Bool.eq_false_iff.mpr c3
  subst c3
  rw [if_neg (show ¬ (false = true) by decide)] at H
  obtain rfl := Option.some.inj H
  go_enter Try.func294, Try.ntmps294
  go_wp2_with (first | (refine xg 1 rfl ?_; refine xV 1 #[.int .i64 a0_0, .int .i64 a0_1, .int .i64 a0_2, .int .i64 a0_3, .bool a0_4] 62 ?_; intro gb297 hg w12 hbox hb; have BK297 := xA (hbox); have GW297 := xgw hg (below_size (xB HB.out)); have GE297 := GW297; replace HB := xA (below_step (xB HB.out) hb); clear hb hbox hg; replace hz297 := blk_cell BK297.out; replace hy297 := blk_frozen BK297.out) | (refine xG (some 5) Try.func384 #[.int .i64 a0_0] ?_; (with_reducible refine (impl_isFactor.calls a0_0 false _ A2.out).mono ?_); rintro e w' ⟨rfl, ⟨nd, rfl⟩⟩; refine ⟨_, rfl, ?_⟩))
  go_ret
  exact ⟨xr, xB1 GE297.out HB.out⟩

 subst c3
 rw [if_pos rfl] at H
 obtain ⟨t299, A4, H⟩ := xO H
 (try dsimp only at H)
 by_cases c5 : t299 = true
 rotate_left
 ·replace c5 := Bool.eq_false_iff.mpr c5
  subst c5
  rw [if_neg (show ¬ (false = true) by decide)] at H
  obtain rfl := Option.some.inj H
  go_enter Try.func294, Try.ntmps294
  go_wp2_with (first | (refine xg 1 rfl ?_; refine xV 1 #[.int .i64 a0_0, .int .i64 a0_1, .int .i64 a0_2, .int .i64 a0_3, .bool a0_4] 62 ?_; intro gb297 hg w10 hbox hb; have BK297 := xA (hbox); have GW297 := xgw hg (below_size (xB HB.out)); have GE297 := GW297; replace HB := xA (below_step (xB HB.out) hb); clear hb hbox hg; replace hz297 := blk_cell BK297.out; replace hy297 := blk_frozen BK297.out) | (refine xG (some 5) Try.func384 #[.int .i64 a0_0] ?_; (with_reducible refine (impl_isFactor.calls a0_0 true _ A2.out).mono ?_); rintro e w' ⟨rfl, ⟨nd, rfl⟩⟩; refine ⟨_, rfl, ?_⟩) | (go_at_call 385; (with_reducible refine (impl_isScale.calls a0_1 a0_2 false _ A4.out).mono ?_); rintro e w' ⟨rfl, ⟨nd, rfl⟩⟩))
  go_ret
  exact ⟨xr, xB1 GE297.out HB.out⟩
 subst c5
 rw [if_pos rfl] at H
 obtain ⟨t300, A6, H⟩ := xO H
 (try dsimp only at H)
 obtain rfl := Option.some.inj H
 go_enter Try.func294, Try.ntmps294
 go_wp2_with (first | (refine xg 1 rfl ?_; refine xV 1 #[.int .i64 a0_0, .int .i64 a0_1, .int .i64 a0_2, .int .i64 a0_3, .bool a0_4] 62 ?_; intro gb297 hg w7 hbox hb; have BK297 := xA (hbox); have GW297 := xgw hg (below_size (xB HB.out)); have GE297 := GW297; replace HB := xA (below_step (xB HB.out) hb); clear hb hbox hg; replace hz297 := blk_cell BK297.out; replace hy297 := blk_frozen BK297.out) | (refine xG (some 5) Try.func384 #[.int .i64 a0_0] ?_; (with_reducible refine (impl_isFactor.calls a0_0 true _ A2.out).mono ?_); rintro e w' ⟨rfl, ⟨nd, rfl⟩⟩; refine ⟨_, rfl, ?_⟩) | (go_at_call 385; (with_reducible refine (impl_isScale.calls a0_1 a0_2 true _ A4.out).mono ?_); rintro e w' ⟨rfl, ⟨nd, rfl⟩⟩) | (go_at_call 260; (with_reducible refine (impl_isWord.calls a0_3 a0_4 t300 _ A6.out).mono ?_); rintro e w9 ⟨rfl, hb⟩; replace BK297 := xkb BK297 hb; replace HB := xA (below_step (xB1 GE297.out HB.out) hb); (try clear hb)))
 go_ret
 exact ⟨xr, xB1 GE297.out HB.out⟩
/-! ### impl_First_isAt: function 283 -/
def impl_First_isAt.f (a0_0 : Int) (a0_1 : Int) (a0_2 : Int) (a0_3 : Int) (a0_4 : Bool) (a1 : Int) : Option (Bool) := (impl_isFirst.f a0_0 a0_1 a0_2 a0_3 a0_4).bind fun t302 => (if t302 = true then ((impl_Word_has.f a0_3 a0_4 a1).bind fun t303 => (some t303)) else (some false))
set_option maxHeartbeats 200000000 in
set_option maxRecDepth 100000 in
theorem impl_First_isAt.calls (a0_0 : Int) (a0_1 : Int) (a0_2 : Int) (a0_3 : Int) (a0_4 : Bool) (a1 : Int) (r : Bool) (w : World) (h : impl_First_isAt.f a0_0 a0_1 a0_2 a0_3 a0_4 a1 = some r) :
  Calls Try.prog 283 #[.agg #[.int .i64 a0_0, .int .i64 a0_1, .int .i64 a0_2, .int .i64 a0_3, .bool a0_4], .int .i64 a1] w fun e w' => e = .returned (.bool r) ∧ Below w.heap.size w w' := by
 have hu62 := Try.underlying62
 have hu46 := Try.underlying46
 have HB := xA (Below.refl w.heap.size w)
 have H : ((impl_isFirst.f a0_0 a0_1 a0_2 a0_3 a0_4).bind fun t302 => (if t302 = true then ((impl_Word_has.f a0_3 a0_4 a1).bind fun t303 => (some t303)) else (some false))) = some r := h
 clear h
 obtain ⟨t302, A3, H⟩ := xO H
 (try dsimp only at H)
 by_cases c4 : t302 = true
 rotate_left
 ·replace c4 := Bool.eq_false_iff.mpr c4
  subst c4
  rw [if_neg (show ¬ (false = true) by decide)] at H
  obtain rfl := Option.some.inj H
  go_enter Try.func283, Try.ntmps283
  go_wp2_with (first | (refine xg 2 rfl ?_; refine xV 2 #[.int .i64 a0_0, .int .i64 a0_1, .int .i64 a0_2, .int .i64 a0_3, .bool a0_4] 62 ?_; intro gb301 hg w11 hbox hb; have BK301 := xA (hbox); have GW301 := xgw hg (below_size (xB HB.out)); have GE301 := GW301; replace HB := xA (below_step (xB HB.out) hb); clear hb hbox hg; obtain ⟨hcz12_0, hcz12_1, hcz12_2, hcz12_3, hcz12_4, hfz12_0, hfz12_1, hfz12_2, hfz12_3, hfz12_4⟩ := xZ5 BK301.out) | (refine xG (some 6) Try.func294 #[.agg #[.int .i64 a0_0, .int .i64 a0_1, .int .i64 a0_2, .int .i64 a0_3, .bool a0_4]] ?_; (with_reducible refine (impl_isFirst.calls a0_0 a0_1 a0_2 a0_3 a0_4 false _ A3.out).mono ?_); rintro e w13 ⟨rfl, hb⟩; refine ⟨_, rfl, ?_⟩; replace BK301 := xkb BK301 hb; replace HB := xA (below_step (xB1 GE301.out HB.out) hb); (try clear hb)))
  go_ret
  exact ⟨xr, xB1 GE301.out HB.out⟩

 subst c4
 rw [if_pos rfl] at H
 obtain ⟨t303, A5, H⟩ := xO H
 (try dsimp only at H)
 obtain rfl := Option.some.inj H
 go_enter Try.func283, Try.ntmps283
 go_wp2_with (first | (refine xg 2 rfl ?_; refine xV 2 #[.int .i64 a0_0, .int .i64 a0_1, .int .i64 a0_2, .int .i64 a0_3, .bool a0_4] 62 ?_; intro gb301 hg w6 hbox hb; have BK301 := xA (hbox); have GW301 := xgw hg (below_size (xB HB.out)); have GE301 := GW301; replace HB := xA (below_step (xB HB.out) hb); clear hb hbox hg; replace hz301 := blk_cell BK301.out; replace hy301 := blk_frozen BK301.out) | (refine xG (some 6) Try.func294 #[.agg #[.int .i64 a0_0, .int .i64 a0_1, .int .i64 a0_2, .int .i64 a0_3, .bool a0_4]] ?_; (with_reducible refine (impl_isFirst.calls a0_0 a0_1 a0_2 a0_3 a0_4 true _ A3.out).mono ?_); rintro e w8 ⟨rfl, hb⟩; refine ⟨_, rfl, ?_⟩; replace BK301 := xkb BK301 hb; replace HB := xA (below_step (xB1 GE301.out HB.out) hb); (try clear hb); replace hz301 := blk_cell BK301.out; replace hy301 := blk_frozen BK301.out) | (go_at_call 291; (with_reducible refine (impl_Word_has.calls a0_3 a0_4 a1 t303 _ A5.out).mono ?_); rintro e w10 ⟨rfl, hb⟩; replace BK301 := xkb BK301 hb; replace HB := xA (below_step (xB1 GE301.out HB.out) hb); (try clear hb)))
 go_ret
 exact ⟨xr, xB1 GE301.out HB.out⟩
/-! ### impl_First_raw: function 292 -/
def impl_First_raw.f (k : Nat) (a0_0 : Int) (a0_1 : Int) (a0_2 : Int) (a0_3 : Int) (a0_4 : Bool) (a1 : Int) (a2 : Int) : Option (Int) := (impl_shifted.f k (wrap64 (a0_0 * a1)) a0_1 a0_2).bind fun t305 => (some (wrap64 (t305 + a2)))
theorem impl_First_raw.mono : ∀ a0 a1 a2 a3 a4 a5 a6 k, LeO (impl_First_raw.f k a0 a1 a2 a3 a4 a5 a6) (impl_First_raw.f (k + 1) a0 a1 a2 a3 a4 a5 a6) := by
 intro a0 a1 a2 a3 a4 a5 a6 k
 have m0 := @impl_shifted.mono
 unfold impl_First_raw.f
 exact xM
set_option maxHeartbeats 200000000 in
set_option maxRecDepth 100000 in
theorem impl_First_raw.calls (k : Nat) (a0_0 : Int) (a0_1 : Int) (a0_2 : Int) (a0_3 : Int) (a0_4 : Bool) (a1 : Int) (a2 : Int) (r : Int) (w : World) (h : impl_First_raw.f k a0_0 a0_1 a0_2 a0_3 a0_4 a1 a2 = some r) :
  Calls Try.prog 292 #[.agg #[.int .i64 a0_0, .int .i64 a0_1, .int .i64 a0_2, .int .i64 a0_3, .bool a0_4], .int .i64 a1, .int .i64 a2] w fun e w' => e = .returned (.int .i64 r) ∧ Below w.heap.size w w' := by
 have hu62 := Try.underlying62
 have HB := xA (Below.refl w.heap.size w)
 have H : ((impl_shifted.f k (wrap64 (a0_0 * a1)) a0_1 a0_2).bind fun t305 => (some (wrap64 (t305 + a2)))) = some r := h
 clear h
 obtain ⟨t305, A4, H⟩ := xO H
 (try dsimp only at H)
 obtain rfl := Option.some.inj H
 go_enter Try.func292, Try.ntmps292
 go_wp2_with (first | (refine xg 3 rfl ?_; refine xV 3 #[.int .i64 a0_0, .int .i64 a0_1, .int .i64 a0_2, .int .i64 a0_3, .bool a0_4] 62 ?_; intro gb304 hg w5 hbox hb; have BK304 := xA (hbox); have GW304 := xgw hg (below_size (xB HB.out)); have GE304 := GW304; replace HB := xA (below_step (xB HB.out) hb); clear hb hbox hg; obtain ⟨hcz6_0, hcz6_1, hcz6_2, hcz6_3, hcz6_4, hfz6_0, hfz6_1, hfz6_2, hfz6_3, hfz6_4⟩ := xZ5 BK304.out) | (refine xG (some 15) Try.func254 #[.int .i64 (wrap64 (a0_0 * a1)), .int .i64 a0_1, .int .i64 a0_2] ?_; (with_reducible refine (impl_shifted.calls k (wrap64 (a0_0 * a1)) a0_1 a0_2 t305 _ A4.out).mono ?_); rintro e w' ⟨rfl, ⟨nd, rfl⟩⟩; refine ⟨_, rfl, ?_⟩))
 go_ret
 exact ⟨xr, xB1 GE304.out HB.out⟩

/-! ### impl_First_step: function 293 -/
def impl_First_step.f (k : Nat) (a0_0 : Int) (a0_1 : Int) (a0_2 : Int) (a0_3 : Int) (a0_4 : Bool) (a1 : Int) (a2 : Int) : Option (Int) := (impl_First_raw.f k a0_0 a0_1 a0_2 a0_3 a0_4 a1 a2).bind fun t307 => ((impl_Word_fit.f a0_3 a0_4 t307).bind fun t308 => (some t308))
theorem impl_First_step.mono : ∀ a0 a1 a2 a3 a4 a5 a6 k, LeO (impl_First_step.f k a0 a1 a2 a3 a4 a5 a6) (impl_First_step.f (k + 1) a0 a1 a2 a3 a4 a5 a6) := by
 intro a0 a1 a2 a3 a4 a5 a6 k
 have m0 := @impl_First_raw.mono
 unfold impl_First_step.f
 exact xM
def impl_First_step.T1 : Bool × List (List Nat × List Nat) := (true, [([], []), ([0], [0]), ([], []), ([], []), ([], []), ([2, 3, 4], [2, 3, 4]), ([1, 5, 5], [1, 5]), ([6, 6, 0, 1, 2, 3, 4, 5, 6], [6])])
def impl_First_step.B1 : List Nat := [0, 1, 0, 0, 0, 28, 63, 127]
theorem impl_First_step.tab1 : rtab .any (opsOf Try.f293 1) = impl_First_step.T1 := by kernel_rfl
theorem impl_First_step.bits1 : waitsOk impl_First_step.T1.2 impl_First_step.B1 = true := by kernel_rfl
set_option maxHeartbeats 200000000 in
set_option maxRecDepth 100000 in
theorem impl_First_step.calls (k : Nat) (a0_0 : Int) (a0_1 : Int) (a0_2 : Int) (a0_3 : Int) (a0_4 : Bool) (a1 : Int) (a2 : Int) (r : Int) (w : World) (h : impl_First_step.f k a0_0 a0_1 a0_2 a0_3 a0_4 a1 a2 = some r) :
  Calls Try.prog 293 #[.agg #[.int .i64 a0_0, .int .i64 a0_1, .int .i64 a0_2, .int .i64 a0_3, .bool a0_4], .int .i64 a1, .int .i64 a2] w fun e w' => e = .returned (.int .i64 r) ∧ Below w.heap.size w w' := by
 have hu62 := Try.underlying62
 have hu46 := Try.underlying46
 have HB := xA (Below.refl w.heap.size w)
 have H : ((impl_First_raw.f k a0_0 a0_1 a0_2 a0_3 a0_4 a1 a2).bind fun t307 => ((impl_Word_fit.f a0_3 a0_4 t307).bind fun t308 => (some t308))) = some r := h
 clear h
 obtain ⟨t307, A4, H⟩ := xO H
 (try dsimp only at H)
 obtain ⟨t308, A5, H⟩ := xO H
 (try dsimp only at H)
 obtain rfl := Option.some.inj H
 go_enter Try.func293, Try.ntmps293
 try go_wp2_with (first | (refine xg 3 rfl ?_; refine xV 3 #[.int .i64 a0_0, .int .i64 a0_1, .int .i64 a0_2, .int .i64 a0_3, .bool a0_4] 62 ?_; intro gb306 hg w6 hbox hb; have BK306 := xA (hbox); have GW306 := xgw hg (below_size (xB HB.out)); have GE306 := GW306; replace HB := xA (below_step (xB HB.out) hb); clear hb hbox hg))
 replace BK306 := xA (blk_drew BK306.out)
 replace HB := xA (below_drew1 HB.out)
 refine start_ (n := 8) (S := fun w' => w'.cell? ⟨gb306, 0, none⟩ = some (.int .i64 a0_0) ∧ w'.cell? ⟨gb306, 1, none⟩ = some (.int .i64 a0_1) ∧ w'.cell? ⟨gb306, 2, none⟩ = some (.int .i64 a0_2) ∧ w'.cell? ⟨gb306, 3, none⟩ = some (.int .i64 a0_3) ∧ w'.cell? ⟨gb306, 4, none⟩ = some (.bool a0_4)) (ds := []) x5a0 (by kernel_rfl) rfl rfl ⟨(blk_cell BK306.out 0).trans rfl, (blk_cell BK306.out 1).trans rfl, (blk_cell BK306.out 2).trans rfl, (blk_cell BK306.out 3).trans rfl, (blk_cell BK306.out 4).trans rfl⟩ (fun hHeld => ?_); refine with_tabW impl_First_step.tab1 impl_First_step.bits1 (fun HT_ HW_ => ?_)
 generalize w6.drew = w7 at BK306 HB hHeld ⊢
 refine xP 0 7 x5a1 ?_
 refine xP 3 10 x5a2 ?_
 refine xP 4 11 x5a3 ?_
 refine xT5 hHeld 1 8 x5a4 ?_
 refine xT5 hHeld 2 9 x5a5 ?_
 refine xU 5 12 x5a6 (fun K hK => ?_)
 refine xY Try.func292 #[.agg #[.int .i64 a0_0, .int .i64 a0_1, .int .i64 a0_2, .int .i64 a0_3, .bool a0_4], .int .i64 a1, .int .i64 a2] ?_
 with_reducible refine (impl_First_raw.calls k a0_0 a0_1 a0_2 a0_3 a0_4 a1 a2 t307 _ A4.out).mono ?_
 rintro e w8 ⟨rfl, hb⟩
 refine ⟨_, rfl, ?_⟩
 replace BK306 := xkb BK306 hb
 replace HB := xA (below_step (xB1 GE306.out HB.out) hb)
 (try clear hb); (try clear hb2); (try clear hk); (try clear hi)
 refine hK.out _ _ ⟨(blk_cell BK306.out 0).trans rfl, (blk_cell BK306.out 1).trans rfl, (blk_cell BK306.out 2).trans rfl, (blk_cell BK306.out 3).trans rfl, (blk_cell BK306.out 4).trans rfl⟩ (fun hHeld => ?_)
 clear hK K
 refine xN ?_
 refine xU 6 13 x5a7 (fun K hK => ?_)
 refine xY Try.func253 #[.agg #[.int .i64 a0_3, .bool a0_4], .int .i64 t307] ?_
 with_reducible refine (impl_Word_fit.calls a0_3 a0_4 t307 t308 _ A5.out).mono ?_
 rintro e w9 ⟨rfl, hb⟩
 refine ⟨_, rfl, ?_⟩
 replace BK306 := xkb BK306 hb
 replace HB := xA (below_step (xB1 GE306.out HB.out) hb)
 (try clear hb); (try clear hb2); (try clear hk); (try clear hi)
 refine hK.out _ _ ⟨(blk_cell BK306.out 0).trans rfl, (blk_cell BK306.out 1).trans rfl, (blk_cell BK306.out 2).trans rfl, (blk_cell BK306.out 3).trans rfl, (blk_cell BK306.out 4).trans rfl⟩ (fun hHeld => ?_)
 clear hK K
 refine xN ?_
 refine xP 7 6 x5a8 ?_
 refine xDn ?_
 try go_wp2
 go_ret
 exact ⟨xr, xB1 GE306.out HB.out⟩

/-! ### impl_First_run: function 284 -/
def impl_First_run.l0 : Nat → Int → List Int → List Int → Int → Int → Int → Int → Int → Int → Bool → Option (List Int)
 | 0, _, _, _, _, _, _, _, _, _, _ => none
 | k + 1, x1, x7, x11, x12, x13, x310000, x310001, x310002, x310003, x310004 => if x13 < x12 then (if 0 ≤ x13 then (if x13 < (x11.length : Int) then ((impl_First_step.f k x310000 x310001 x310002 x310003 x310004 x1 (rd x11 x13)).bind fun t314 => (if x7.length < 17592186044416 then (impl_First_run.l0 k t314 (x7 ++ [t314]) x11 x12 (wrap64 (x13 + 1)) x310000 x310001 x310002 x310003 x310004) else (none))) else (none)) else (none)) else (some x7)
def impl_First_run.f (k : Nat) (a0_0 : Int) (a0_1 : Int) (a0_2 : Int) (a0_3 : Int) (a0_4 : Bool) (a1 : Int) (l2 : List Int) : Option (List Int) := impl_First_run.l0 k a1 (([] : List Int)) l2 (l2.length : Int) 0 a0_0 a0_1 a0_2 a0_3 a0_4
theorem impl_First_run.mono_l : ∀ k, (∀ y0 y1 y2 y3 y4 y5 y6 y7 y8 y9, LeO (impl_First_run.l0 k y0 y1 y2 y3 y4 y5 y6 y7 y8 y9) (impl_First_run.l0 (k + 1) y0 y1 y2 y3 y4 y5 y6 y7 y8 y9))
 | 0 => fun _ _ _ _ _ _ _ _ _ _ r h => by simp [impl_First_run.l0] at h
 | k + 1 => by
  have ih0 := impl_First_run.mono_l k
  have m0 := @impl_First_step.mono
  intros
  unfold impl_First_run.l0
  exact xM
theorem impl_First_run.mono : ∀ a0 a1 a2 a3 a4 a5 a6 k, LeO (impl_First_run.f k a0 a1 a2 a3 a4 a5 a6) (impl_First_run.f (k + 1) a0 a1 a2 a3 a4 a5 a6) := by
 intro a0 a1 a2 a3 a4 a5 a6 k
 have ih0 := impl_First_run.mono_l k
 have m0 := @impl_First_step.mono
 unfold impl_First_run.f
 exact xM
set_option maxHeartbeats 200000000 in
set_option maxRecDepth 100000 in
theorem impl_First_run.calls (k : Nat) (a0_0 : Int) (a0_1 : Int) (a0_2 : Int) (a0_3 : Int) (a0_4 : Bool) (a1 : Int) (A2 : Option Addr) (c2 : Nat) (l2 : List Int) (r : List Int) (w : World) (hr2 : Kd.C (Kd.int .i64) w A2 l2.length l2) (hc2 : l2.length ≤ c2) (h : impl_First_run.f k a0_0 a0_1 a0_2 a0_3 a0_4 a1 l2 = some r) :
  Calls Try.prog 284 #[.agg #[.int .i64 a0_0, .int .i64 a0_1, .int .i64 a0_2, .int .i64 a0_3, .bool a0_4], .int .i64 a1, .slice A2 l2.length c2] w fun e w' => ∃ v0_ : Value, e = .returned (v0_) ∧ Kd.R (Kd.int .i64) 3 w' w.heap.size (fun _ => True) v0_ r ∧ Below w.heap.size w w' := by
 have hu62 := Try.underlying62
 have HR2 := xA hr2
 have HC2 := xA hc2
 clear hr2 hc2
 have HB := xA (Below.refl w.heap.size w)
 have H : (impl_First_run.l0 k a1 (([] : List Int)) l2 (l2.length : Int) 0 a0_0 a0_1 a0_2 a0_3 a0_4) = some r := h
 clear h
 obtain ⟨y310, hy310⟩ : ∃ y_ : List Int, y_ = (([] : List Int)) := ⟨_, rfl⟩
 replace H : (impl_First_run.l0 k a1 y310 l2 (l2.length : Int) 0 a0_0 a0_1 a0_2 a0_3 a0_4) = some r := by first | (rw [hy310]; with_reducible exact H) | (have H2_ := (Option.bind_some _ _).symm.trans H; rw [hy310]; with_reducible exact H2_) | (have H2_ := (Option.bind_some _ _).symm.trans H; with_reducible exact H2_) | with_reducible exact H | (rw [hy310]; exact H) | exact H
 have Ny310 := xA hy310
 clear hy310
 have H' := xA H
 clear H
 go_enter Try.func284, Try.ntmps284
 go_wp2_with (first | (refine xg 3 rfl ?_; refine xV 3 #[.int .i64 a0_0, .int .i64 a0_1, .int .i64 a0_2, .int .i64 a0_3, .bool a0_4] 62 ?_; intro gb309 hg w4 hbox hb; have BK309 := xA (hbox); have GW309 := xgw hg (below_size (xB HB.out)); have GE309 := GW309; replace HB := xA (below_step (xB HB.out) hb); clear hb hbox hg) | ((with_reducible refine gate_dst (N := 10) rfl ?_); refine Kd.R_lit (Kd.int .i64) _ 3 ?hg (N := 10) ?hd (xs := ([] : List Int)) (inner := []) (ok := fun _ => True) (okp := fun _ => True) ?hr ?hp (fun _ hk => hk) trivial (Below.refl _ _) (Nat.le_refl _) (by simp) ?_; (case hd => rfl); (case hg => rfl); (case hr => first | (go_simp; done) | (go_simp; rfl)); (case hp => exact (Reps.none _ _)); intro v311 w5 ho6 hb hg_ hnew_; clear hg_ hnew_; (first | rw [← Ny310.out] at ho6 | (simp only [Int.reduceToNat] at ho6; rw [← Ny310.out] at ho6)); have HO312 := xA (Kd.R_lower ho6 (below_size (xB1 GE309.out HB.out))); replace BK309 := xkb BK309 hb; replace HB := xA (below_step (xB1 GE309.out HB.out) hb); clear hb ho6))
 go_loopg [1, 7, 13] k (fun kq v1 v7 v13 w' => ∃ (x1_1 : Int) (x7_1 : List Int) (x13_1 : Int), v1 = .int .i64 x1_1 ∧ v13 = .int .i64 x13_1 ∧ Aside0 (impl_First_run.l0 kq x1_1 x7_1 l2 (l2.length : Int) x13_1 a0_0 a0_1 a0_2 a0_3 a0_4 = some r) ∧ Aside0 (kq ≤ k) ∧ Aside0 (Kd.R (Kd.int .i64) 3 w' w.heap.size (fun _ => True) v7 x7_1) ∧ Aside0 (w'.heap[gb309]? = some (.cells #[.int .i64 a0_0, .int .i64 a0_1, .int .i64 a0_2, .int .i64 a0_3, .bool a0_4] 62 (0, 0))) ∧ Aside0 (Below w.heap.size w w'))
 case atStart => exact ⟨(a1), (y310), (0), xs, xs, H', ⟨Nat.le_refl _⟩, ⟨xR HO312.out⟩, ⟨xK BK309.out⟩, ⟨xB1 GE309.out HB.out⟩⟩
 case round =>
  clear H'
  try clear c2
  obtain ⟨x1_1, x7_1, x13_1, rfl, rfl, HA, HK1, HO_7, BK309, HB⟩ := hrel
  cases gk with
  | zero => exact absurd HA.out (by simp [impl_First_run.l0])
  | succ k1 =>
   have H := HA.out
   clear HA
   simp only [impl_First_run.l0] at H
   by_cases c7 : x13_1 < (l2.length : Int)
   rotate_left
   ·rw [if_neg c7] at H
    have c7b0 : decide (x13_1 < (l2.length : Int)) = false := decide_eq_false c7
    clear c7
    obtain rfl := Option.some.inj H
    go_wp2
    go_ret
    exact ⟨_, xr, xR HO_7.out, xB1 GE309.out HB.out⟩

   rw [if_pos c7] at H
   have c7b0 : decide (x13_1 < (l2.length : Int)) = true := decide_eq_true c7
   clear c7
   by_cases c8 : 0 ≤ x13_1
   rotate_left
   ·rw [if_neg c8] at H
    exact absurd H (by simp)
   rw [if_pos c8] at H
   have c8b0 : decide (0 ≤ x13_1) = true := decide_eq_true c8
   clear c8
   by_cases c9 : x13_1 < (l2.length : Int)
   rotate_left
   ·rw [if_neg c9] at H
    exact absurd H (by simp)
   rw [if_pos c9] at H
   have c9b0 : decide (x13_1 < (l2.length : Int)) = true := decide_eq_true c9
   clear c9
   obtain ⟨t314, A10, H⟩ := xO H
   (try dsimp only at H)
   by_cases c11 : x7_1.length < 17592186044416
   rotate_left
   ·rw [if_neg c11] at H
    exact absurd H (by simp)
   rw [if_pos c11] at H
   have LMc11 := xA c11
   clear c11
   obtain ⟨y315, hy315⟩ : ∃ y_ : List Int, y_ = (x7_1 ++ [t314]) := ⟨_, rfl⟩
   replace H : (impl_First_run.l0 k1 t314 y315 l2 (l2.length : Int) (wrap64 (x13_1 + 1)) a0_0 a0_1 a0_2 a0_3 a0_4) = some r := by first | (rw [hy315]; with_reducible exact H) | (have H2_ := (Option.bind_some _ _).symm.trans H; rw [hy315]; with_reducible exact H2_) | (have H2_ := (Option.bind_some _ _).symm.trans H; with_reducible exact H2_) | with_reducible exact H | (rw [hy315]; exact H) | exact H
   have Ny315 := xA hy315
   clear hy315
   have H' := xA H
   clear H
   have p313 : 0 ≤ (x13_1 : Int) := of_decide_eq_true (by first | (with_reducible assumption) | assumption)
   have q313 : x13_1 < (l2.length : Int) := of_decide_eq_true (by first | (with_reducible assumption) | assumption)
   obtain ⟨ad313, e313, hx313_0⟩ := Kd.at_int HR2.out x13_1 p313 q313
   cases e313
   replace hx313_0 := (HB.out.cell (World.block_lt_of_cell? w _ hx313_0)).trans hx313_0
   replace p313 := eq_true p313
   replace q313 := eq_true q313
   obtain ⟨hcz12_0, hcz12_1, hcz12_2, hcz12_3, hcz12_4, hfz12_0, hfz12_1, hfz12_2, hfz12_3, hfz12_4⟩ := xZ5 BK309.out
   go_wp2_with (first | (refine xG (some 20) Try.func293 #[.agg #[.int .i64 a0_0, .int .i64 a0_1, .int .i64 a0_2, .int .i64 a0_3, .bool a0_4], .int .i64 x1_1, .int .i64 (rd l2 x13_1)] ?_; (with_reducible refine (impl_First_step.calls k1 a0_0 a0_1 a0_2 a0_3 a0_4 x1_1 (rd l2 x13_1) t314 _ A10.out).mono ?_); rintro e w13 ⟨rfl, hb⟩; refine ⟨_, rfl, ?_⟩; replace HO_7 := xA (Kd.R_below (xR HO_7.out) hb); replace BK309 := xkb BK309 hb; replace HB := xA (below_step (xB1 GE309.out HB.out) hb); (try clear hb)) | ((with_reducible refine gate_builtin (b := .append) (xs := #[.tmp 21, .tmp 23]) rfl ?_); at_builtin; refine Kd.R_append (Kd.int .i64) (w0 := w) w.heap.size rfl (.tmp 21) (.tmp 23) 24 3 (.int .i64 0) 8 rfl Try.underlying24 info3 rfl (by decide) (by omega) u7 x7_1 t314 [.int .i64 t314] (fun _ => True) (fun _ => False) rfl rfl ?aP (fun _ hk => hk.elim) ?aF ?aO ?aB ?aS ?aL ?_; (case aP => exact rfl); (case aB => exact (xB1 GE309.out HB.out)); (case aF => exact (fun _ _ => trivial)); (case aO => exact (xR HO_7.out)); (case aS => exact (below_size (xB1 GE309.out HB.out))); (case aL => have := LMc11.out; omega); intro v316 w14 ho hb hg hat; rw [← Ny315.out] at ho; replace BK309 := xA (blk_grown (xK BK309.out) hg (Kd.R_ne HO_7.out BK309.out (by decide))); replace HB := xA (hb); have HO317 := xA (ho); clear HO_7; clear ho hb hg hat))
   go_roundg k1
   case measure => have := HK1.out; omega
   case rel => exact ⟨(t314), (y315), (wrap64 (x13_1 + 1)), xs, xs, H', ⟨by have := HK1.out; omega⟩, ⟨xR HO317.out⟩, ⟨xK BK309.out⟩, ⟨xB1 GE309.out HB.out⟩⟩
/-! ### impl_RunFirst: function 87 -/
def impl_RunFirst.f (k : Nat) (a0_0 : Int) (a0_1 : Int) (a0_2 : Int) (a0_3 : Int) (a0_4 : Bool) (a1 : Int) (l2 : List Int) : Option (List Int × Bool) := (impl_First_isAt.f a0_0 a0_1 a0_2 a0_3 a0_4 a1).bind fun t319 => (if t319 = true then ((impl_isSignal.f k l2).bind fun t320 => (if t320 = true then ((impl_First_run.f k a0_0 a0_1 a0_2 a0_3 a0_4 a1 l2).bind fun t321 => (some (t321, true))) else (some (([] : List Int), false)))) else (some (([] : List Int), false)))
theorem impl_RunFirst.mono : ∀ a0 a1 a2 a3 a4 a5 a6 k, LeO (impl_RunFirst.f k a0 a1 a2 a3 a4 a5 a6) (impl_RunFirst.f (k + 1) a0 a1 a2 a3 a4 a5 a6) := by
 intro a0 a1 a2 a3 a4 a5 a6 k
 have m0 := @impl_First_run.mono
 have m1 := @impl_isSignal.mono
 unfold impl_RunFirst.f
 exact xM
set_option maxHeartbeats 200000000 in
set_option maxRecDepth 100000 in
theorem impl_RunFirst.calls (k : Nat) (a0_0 : Int) (a0_1 : Int) (a0_2 : Int) (a0_3 : Int) (a0_4 : Bool) (a1 : Int) (A2 : Option Addr) (c2 : Nat) (l2 : List Int) (r1 : List Int) (r2 : Bool) (w : World) (hr2 : Kd.C (Kd.int .i64) w A2 l2.length l2) (hc2 : l2.length ≤ c2) (h : impl_RunFirst.f k a0_0 a0_1 a0_2 a0_3 a0_4 a1 l2 = some (r1, r2)) :
  Calls Try.prog 87 #[.agg #[.int .i64 a0_0, .int .i64 a0_1, .int .i64 a0_2, .int .i64 a0_3, .bool a0_4], .int .i64 a1, .slice A2 l2.length c2] w fun e w' => ∃ v0_ : Value, e = .returned (.tuple #[v0_, .bool r2]) ∧ Kd.R (Kd.int .i64) 3 w' w.heap.size (fun _ => True) v0_ r1 ∧ Below w.heap.size w w' := by
 have hu62 := Try.underlying62
 have HR2 := xA hr2
 have HC2 := xA hc2
 clear hr2 hc2
 have HB := xA (Below.refl w.heap.size w)
 have H : ((impl_First_isAt.f a0_0 a0_1 a0_2 a0_3 a0_4 a1).bind fun t319 => (if t319 = true then ((impl_isSignal.f k l2).bind fun t320 => (if t320 = true then ((impl_First_run.f k a0_0 a0_1 a0_2 a0_3 a0_4 a1 l2).bind fun t321 => (some (t321, true))) else (some (([] : List Int), false)))) else (some (([] : List Int), false)))) = some (r1, r2) := h
 clear h
 obtain ⟨t319, A4, H⟩ := xO H
 (try dsimp only at H)
 by_cases c5 : t319 = true
 rotate_left
 ·replace c5 := Bool.eq_false_iff.mpr c5
  subst c5
  rw [if_neg (show ¬ (false = true) by decide)] at H
  simp only [Option.some.injEq, Prod.mk.injEq] at H
  obtain ⟨rfl, rfl⟩ := H
  go_enter Try.func87, Try.ntmps87
  go_wp2_with (first | (refine xg 3 rfl ?_; refine xV 3 #[.int .i64 a0_0, .int .i64 a0_1, .int .i64 a0_2, .int .i64 a0_3, .bool a0_4] 62 ?_; intro gb318 hg w17 hbox hb; have BK318 := xA (hbox); have GW318 := xgw hg (below_size (xB HB.out)); have GE318 := GW318; replace HB := xA (below_step (xB HB.out) hb); clear hb hbox hg; replace hz318 := blk_cell BK318.out; replace hy318 := blk_frozen BK318.out) | (refine xG (some 10) Try.func283 #[.agg #[.int .i64 a0_0, .int .i64 a0_1, .int .i64 a0_2, .int .i64 a0_3, .bool a0_4], .int .i64 a1] ?_; (with_reducible refine (impl_First_isAt.calls a0_0 a0_1 a0_2 a0_3 a0_4 a1 false _ A4.out).mono ?_); rintro e w19 ⟨rfl, hb⟩; refine ⟨_, rfl, ?_⟩; replace BK318 := xkb BK318 hb; replace HB := xA (below_step (xB1 GE318.out HB.out) hb); (try clear hb)))
  go_ret2
  exact ⟨_, xr, by first | exact Kd.R_nil _ _ _ _ _ | exact Kd.N_nil _ _ _ _ _ | exact Kd.V_nil _ _ _ _ _ | exact Kd.Q_nil _ _ _ _ _ | exact Kd.S_nil _ _ _ _ _, xB1 GE318.out HB.out⟩

 subst c5
 rw [if_pos rfl] at H
 obtain ⟨t320, A6, H⟩ := xO H
 (try dsimp only at H)
 by_cases c7 : t320 = true
 rotate_left
 ·replace c7 := Bool.eq_false_iff.mpr c7
  subst c7
  rw [if_neg (show ¬ (false = true) by decide)] at H
  simp only [Option.some.injEq, Prod.mk.injEq] at H
  obtain ⟨rfl, rfl⟩ := H
  go_enter Try.func87, Try.ntmps87
  go_wp2_with (first | (refine xg 3 rfl ?_; refine xV 3 #[.int .i64 a0_0, .int .i64 a0_1, .int .i64 a0_2, .int .i64 a0_3, .bool a0_4] 62 ?_; intro gb318 hg w14 hbox hb; have BK318 := xA (hbox); have GW318 := xgw hg (below_size (xB HB.out)); have GE318 := GW318; replace HB := xA (below_step (xB HB.out) hb); clear hb hbox hg; replace hz318 := blk_cell BK318.out; replace hy318 := blk_frozen BK318.out) | (refine xG (some 10) Try.func283 #[.agg #[.int .i64 a0_0, .int .i64 a0_1, .int .i64 a0_2, .int .i64 a0_3, .bool a0_4], .int .i64 a1] ?_; (with_reducible refine (impl_First_isAt.calls a0_0 a0_1 a0_2 a0_3 a0_4 a1 true _ A4.out).mono ?_); rintro e w16 ⟨rfl, hb⟩; refine ⟨_, rfl, ?_⟩; replace BK318 := xkb BK318 hb; replace HB := xA (below_step (xB1 GE318.out HB.out) hb); (try clear hb)) | (go_at_call 233; (with_reducible refine (impl_isSignal.calls k _ _ l2 false _ ?side1 ?side2 A6.out).mono ?_); (case side1 => exact xC (Kd.C_below HR2.out HB.out)); (case side2 => exact HC2.out); rintro e w' ⟨rfl, ⟨nd, rfl⟩⟩))
  go_ret2
  exact ⟨_, xr, by first | exact Kd.R_nil _ _ _ _ _ | exact Kd.N_nil _ _ _ _ _ | exact Kd.V_nil _ _ _ _ _ | exact Kd.Q_nil _ _ _ _ _ | exact Kd.S_nil _ _ _ _ _, xB1 GE318.out HB.out⟩
 subst c7
 rw [if_pos rfl] at H
 obtain ⟨t321, A8, H⟩ := xO H
 (try dsimp only at H)
 simp only [Option.some.injEq, Prod.mk.injEq] at H
 obtain ⟨rfl, rfl⟩ := H
 go_enter Try.func87, Try.ntmps87
 go_wp2_with (first | (refine xq rfl ?_; first | (refine xG (some 10) Try.func283 #[.agg #[.int .i64 a0_0, .int .i64 a0_1, .int .i64 a0_2, .int .i64 a0_3, .bool a0_4], .int .i64 a1] ?_; (with_reducible refine (impl_First_isAt.calls a0_0 a0_1 a0_2 a0_3 a0_4 a1 true _ A4.out).mono ?_); rintro e w11 ⟨rfl, hb⟩; refine ⟨_, rfl, ?_⟩; replace BK318 := xkb BK318 hb; replace HB := xA (below_step (xB1 GE318.out HB.out) hb); (try clear hb)) | (refine xG (some 20) Try.func284 #[.agg #[.int .i64 a0_0, .int .i64 a0_1, .int .i64 a0_2, .int .i64 a0_3, .bool a0_4], .int .i64 a1, .slice A2 l2.length c2] ?_; (with_reducible refine (impl_First_run.calls k a0_0 a0_1 a0_2 a0_3 a0_4 a1 _ _ l2 t321 _ ?side1 ?side2 A8.out).mono ?_); (case side1 => repeat (first | exact (Kd.C_below HR2.out (xB1 GE318.out HB.out)) | (with_reducible refine Kd.C_alloc ?_ _) | (with_reducible refine Kd.C_drewN ?_ _) | (with_reducible refine Kd.C_drew ?_))); (case side2 => exact HC2.out); rintro e w13 ⟨v322, rfl, ho0, hb⟩; refine ⟨_, rfl, ?_⟩; have HO323 := xA (Kd.R_lower ho0 (below_size (xB1 GE318.out HB.out))); replace BK318 := xkb BK318 hb; replace HB := xA (below_step (xB1 GE318.out HB.out) hb); (try clear hb); (try clear ho0))) | (refine xg 3 rfl ?_; refine xV 3 #[.int .i64 a0_0, .int .i64 a0_1, .int .i64 a0_2, .int .i64 a0_3, .bool a0_4] 62 ?_; intro gb318 hg w9 hbox hb; have BK318 := xA (hbox); have GW318 := xgw hg (below_size (xB HB.out)); have GE318 := GW318; replace HB := xA (below_step (xB HB.out) hb); clear hb hbox hg; replace hz318 := blk_cell BK318.out; replace hy318 := blk_frozen BK318.out) | (go_at_call 233; (with_reducible refine (impl_isSignal.calls k _ _ l2 true _ ?side1 ?side2 A6.out).mono ?_); (case side1 => exact xC (Kd.C_below HR2.out HB.out)); (case side2 => exact HC2.out); rintro e w' ⟨rfl, ⟨nd, rfl⟩⟩; obtain ⟨hcz12_0, hcz12_1, hcz12_2, hcz12_3, hcz12_4, hfz12_0, hfz12_1, hfz12_2, hfz12_3, hfz12_4⟩ := xZ5 BK318.out))
 go_ret2
 exact ⟨_, xr, xR HO323.out, xB1 GE318.out HB.out⟩
end Go.Proofs.Ytjplcongellcmaa.PFnFirstRuns
