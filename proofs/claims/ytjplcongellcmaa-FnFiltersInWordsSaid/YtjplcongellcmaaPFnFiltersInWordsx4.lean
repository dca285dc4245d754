/- What each Go function that the statement FnFiltersInWords reaches answers, proved call by call. No condition beyond those that the theorems print. (Written by wip/tools/xprint.py of this repo, over the kit's print.) -/
import Derived.Test.YtjplcongellcmaaPFnFiltersInWordsx0
import Derived.Test.YtjplcongellcmaaPFnFiltersInWordsx3
namespace Go.Proofs.Ytjplcongellcmaa.PFnFiltersInWords
open Go.RowKit Go.Proofs.YtjplcongellcmaaW.PrintWords Go.Proofs.YtjplcongellcmaaW.PrintLast Go.Proofs.YtjplcongellcmaaW.PrintMore
attribute [local go_sem] max2_int min2_int max_two min_two max_three min_three max_four min_four   -- for this text's walks alone
set_option linter.unusedVariables false
set_option linter.unusedSimpArgs false

/-! ### slices_IndexFunc_int_int_impl_isSignal_c1: function 423 -/
def slices_IndexFunc_int_int_impl_isSignal_c1.l0 : Nat → List Int → Int → Int → Option (Int)
 | 0, _, _, _ => none
 | k + 1, x0, x7, x8 => if x8 < x7 then (if 0 ≤ x8 then (if x8 < (x0.length : Int) then ((impl_isSignal_c1.f (rd x0 x8)).bind fun t282 => (if t282 = true then (some x8) else (slices_IndexFunc_int_int_impl_isSignal_c1.l0 k x0 x7 (wrap64 (x8 + 1))))) else (none)) else (none)) else (some (-1))
def slices_IndexFunc_int_int_impl_isSignal_c1.f (k : Nat) (l0 : List Int) : Option (Int) := slices_IndexFunc_int_int_impl_isSignal_c1.l0 k l0 (l0.length : Int) 0
theorem slices_IndexFunc_int_int_impl_isSignal_c1.mono_l : ∀ k, (∀ y0 y1 y2, LeO (slices_IndexFunc_int_int_impl_isSignal_c1.l0 k y0 y1 y2) (slices_IndexFunc_int_int_impl_isSignal_c1.l0 (k + 1) y0 y1 y2))
 | 0 => fun _ _ _ r h => by simp [slices_IndexFunc_int_int_impl_isSignal_c1.l0] at h
 | k + 1 => by
  have ih0 := slices_IndexFunc_int_int_impl_isSignal_c1.mono_l k
  intros
  unfold slices_IndexFunc_int_int_impl_isSignal_c1.l0
  exact xM
theorem slices_IndexFunc_int_int_impl_isSignal_c1.mono : ∀ a0 k, LeO (slices_IndexFunc_int_int_impl_isSignal_c1.f k a0) (slices_IndexFunc_int_int_impl_isSignal_c1.f (k + 1) a0) := by
 intro a0 k
 have ih0 := slices_IndexFunc_int_int_impl_isSignal_c1.mono_l k
 unfold slices_IndexFunc_int_int_impl_isSignal_c1.f
 exact xM
set_option maxHeartbeats 8000000 in
set_option maxRecDepth 100000 in
theorem slices_IndexFunc_int_int_impl_isSignal_c1.calls (k : Nat) (A0 : Option Addr) (c0 : Nat) (l0 : List Int) (r : Int) (w : World) (hr0 : Kd.C (Kd.int .i64) w A0 l0.length l0) (hc0 : l0.length ≤ c0) (h : slices_IndexFunc_int_int_impl_isSignal_c1.f k l0 = some r) :
  Calls Try.prog 398 #[.slice A0 l0.length c0, .func (.func 370) #[] #[]] w fun e w' => e = .returned (.int .i64 r) ∧ Drawn0 w w' := by
 have HR0 := Aside0.mk hr0
 have HC0 := Aside0.mk hc0
 clear hr0 hc0
 have H : (slices_IndexFunc_int_int_impl_isSignal_c1.l0 k l0 (l0.length : Int) 0) = some r := h
 clear h
 have H' := Aside0.mk H
 clear H
 go_enter Try.func398, Try.ntmps398
 go_wp2
 go_loopg [8] k (fun kq v8 w' => ∃ (x8_1 : Int), v8 = .int .i64 x8_1 ∧ Aside0 (slices_IndexFunc_int_int_impl_isSignal_c1.l0 kq l0 (l0.length : Int) x8_1 = some r) ∧ Aside0 (kq ≤ k) ∧ Drawn0 w w')
 case atStart => exact ⟨(0), (by first | rfl | (simp; done) | (simp [*]; done)), H', ⟨Nat.le_refl _⟩, by repeat (first | exact Drawn0.refl _ | apply Drawn0.step)⟩
 case round =>
  clear H'
  obtain ⟨x8_1, rfl, HA, HK1, ⟨m1, rfl⟩⟩ := hrel
  cases gk with
  | zero => exact absurd HA.out (by simp [slices_IndexFunc_int_int_impl_isSignal_c1.l0])
  | succ k1 =>
   have H := HA.out
   clear HA
   simp only [slices_IndexFunc_int_int_impl_isSignal_c1.l0] at H
   by_cases c2 : x8_1 < (l0.length : Int)
   rotate_left
   ·rw [if_neg c2] at H
    have c2b0 : decide (x8_1 < (l0.length : Int)) = false := decide_eq_false c2
    clear c2
    obtain rfl := Option.some.inj H
    go_wp2
    go_ret
    exact ⟨by first | rfl | (simp; done) | (simp [*]; done), by repeat (first | exact Drawn0.refl _ | apply Drawn0.step)⟩

   rw [if_pos c2] at H
   have c2b0 : decide (x8_1 < (l0.length : Int)) = true := decide_eq_true c2
   clear c2
   by_cases c3 : 0 ≤ x8_1
   rotate_left
   ·rw [if_neg c3] at H
    exact absurd H (by simp)
   rw [if_pos c3] at H
   have c3b0 : decide (0 ≤ x8_1) = true := decide_eq_true c3
   clear c3
   by_cases c4 : x8_1 < (l0.length : Int)
   rotate_left
   ·rw [if_neg c4] at H
    exact absurd H (by simp)
   rw [if_pos c4] at H
   have c4b0 : decide (x8_1 < (l0.length : Int)) = true := decide_eq_true c4
   clear c4
   obtain ⟨t282, A5, H⟩ := xO H
   (try dsimp only at H)
   by_cases c6 : t282 = true
   ·subst c6
    rw [if_pos rfl] at H
    obtain rfl := Option.some.inj H
    have p281 : 0 ≤ (x8_1 : Int) := of_decide_eq_true (by first | (with_reducible assumption) | assumption)
    have q281 : x8_1 < (l0.length : Int) := of_decide_eq_true (by first | (with_reducible assumption) | assumption)
    obtain ⟨ad281, e281, hx281_0⟩ := Kd.at_int HR0.out x8_1 p281 q281
    cases e281
    replace p281 := eq_true p281
    replace q281 := eq_true q281
    go_wp2_with (first | (go_at_call 370; (with_reducible refine (impl_isSignal_c1.calls (rd l0 x8_1) true _ A5.out).mono ?_); rintro e w' ⟨rfl, ⟨nd, rfl⟩⟩))
    go_ret
    exact ⟨by first | rfl | (simp; done) | (simp [*]; done), by repeat (first | exact Drawn0.refl _ | apply Drawn0.step)⟩
   replace c6 := Bool.eq_false_iff.mpr c6
   subst c6
   rw [if_neg (show ¬ (false = true) by decide)] at H
   have H' := Aside0.mk H
   clear H
   have p281 : 0 ≤ (x8_1 : Int) := of_decide_eq_true (by first | (with_reducible assumption) | assumption)
   have q281 : x8_1 < (l0.length : Int) := of_decide_eq_true (by first | (with_reducible assumption) | assumption)
   obtain ⟨ad281, e281, hx281_0⟩ := Kd.at_int HR0.out x8_1 p281 q281
   cases e281
   replace p281 := eq_true p281
   replace q281 := eq_true q281
   go_wp2_with (first | (go_at_call 370; (with_reducible refine (impl_isSignal_c1.calls (rd l0 x8_1) false _ A5.out).mono ?_); rintro e w' ⟨rfl, ⟨nd, rfl⟩⟩))
   go_roundg k1
   case measure => have := HK1.out; omega
   case rel => exact ⟨(wrap64 (x8_1 + 1)), (by first | rfl | (simp; done) | (simp [*]; done)), H', ⟨by have := HK1.out; omega⟩, by repeat (first | exact Drawn0.refl _ | apply Drawn0.step)⟩
/-! ### slices_ContainsFunc_int_int_impl_isSignal_c1: function 422 -/
def slices_ContainsFunc_int_int_impl_isSignal_c1.f (k : Nat) (l0 : List Int) : Option (Bool) := (slices_IndexFunc_int_int_impl_isSignal_c1.f k l0).bind fun t283 => (some (decide (t283 ≥ 0)))
theorem slices_ContainsFunc_int_int_impl_isSignal_c1.mono : ∀ a0 k, LeO (slices_ContainsFunc_int_int_impl_isSignal_c1.f k a0) (slices_ContainsFunc_int_int_impl_isSignal_c1.f (k + 1) a0) := by
 intro a0 k
 have m0 := @slices_IndexFunc_int_int_impl_isSignal_c1.mono
 unfold slices_ContainsFunc_int_int_impl_isSignal_c1.f
 exact xM
set_option maxHeartbeats 8000000 in
set_option maxRecDepth 100000 in
theorem slices_ContainsFunc_int_int_impl_isSignal_c1.calls (k : Nat) (A0 : Option Addr) (c0 : Nat) (l0 : List Int) (r : Bool) (w : World) (hr0 : Kd.C (Kd.int .i64) w A0 l0.length l0) (hc0 : l0.length ≤ c0) (h : slices_ContainsFunc_int_int_impl_isSignal_c1.f k l0 = some r) :
  Calls Try.prog 369 #[.slice A0 l0.length c0, .func (.func 370) #[] #[]] w fun e w' => e = .returned (.bool r) ∧ Drawn0 w w' := by
 have HR0 := Aside0.mk hr0
 have HC0 := Aside0.mk hc0
 clear hr0 hc0
 have H : ((slices_IndexFunc_int_int_impl_isSignal_c1.f k l0).bind fun t283 => (some (decide (t283 ≥ 0)))) = some r := h
 clear h
 obtain ⟨t283, A2, H⟩ := xO H
 (try dsimp only at H)
 obtain rfl := Option.some.inj H
 go_enter Try.func369, Try.ntmps369
 go_wp2_with (first | (refine xG (some 7) Try.func398 #[.slice A0 l0.length c0, .func (.func 370) #[] #[]] ?_; (with_reducible refine (slices_IndexFunc_int_int_impl_isSignal_c1.calls k _ _ l0 t283 _ ?side1 ?side2 A2.out).mono ?_); (case side1 => exact xC HR0.out); (case side2 => exact HC0.out); rintro e w' ⟨rfl, ⟨nd, rfl⟩⟩; refine ⟨_, rfl, ?_⟩))
 go_ret
 exact ⟨by first | rfl | (simp; done) | (simp [*]; done), by repeat (first | exact Drawn0.refl _ | apply Drawn0.step)⟩

/-! ### impl_isSignal: function 233 -/
def impl_isSignal.f (k : Nat) (l0 : List Int) : Option (Bool) := if (l0.length : Int) ≤ 64 then ((slices_ContainsFunc_int_int_impl_isSignal_c1.f k l0).bind fun t284 => (some (!t284))) else (some false)
theorem impl_isSignal.mono : ∀ a0 k, LeO (impl_isSignal.f k a0) (impl_isSignal.f (k + 1) a0) := by
 intro a0 k
 have m0 := @slices_ContainsFunc_int_int_impl_isSignal_c1.mono
 unfold impl_isSignal.f
 exact xM
set_option maxHeartbeats 8000000 in
set_option maxRecDepth 100000 in
theorem impl_isSignal.calls (k : Nat) (A0 : Option Addr) (c0 : Nat) (l0 : List Int) (r : Bool) (w : World) (hr0 : Kd.C (Kd.int .i64) w A0 l0.length l0) (hc0 : l0.length ≤ c0) (h : impl_isSignal.f k l0 = some r) :
  Calls Try.prog 233 #[.slice A0 l0.length c0] w fun e w' => e = .returned (.bool r) ∧ Drawn0 w w' := by
 have HR0 := Aside0.mk hr0
 have HC0 := Aside0.mk hc0
 clear hr0 hc0
 have H : (if (l0.length : Int) ≤ 64 then ((slices_ContainsFunc_int_int_impl_isSignal_c1.f k l0).bind fun t284 => (some (!t284))) else (some false)) = some r := h
 clear h
 by_cases c2 : (l0.length : Int) ≤ 64
 rotate_left
 ·rw [if_neg c2] at H
  have c2b0 : decide ((l0.length : Int) ≤ 64) = false := decide_eq_false c2
  have c2b1 : decide (l0.length ≤ 64) = false := decide_eq_false (by omega)
  clear c2
  obtain rfl := Option.some.inj H
  go_enter Try.func233, Try.ntmps233
  go_wp2
  go_ret
  exact ⟨by first | rfl | (simp; done) | (simp [*]; done), by repeat (first | exact Drawn0.refl _ | apply Drawn0.step)⟩

 rw [if_pos c2] at H
 have c2b0 : decide ((l0.length : Int) ≤ 64) = true := decide_eq_true c2
 have c2b1 : decide (l0.length ≤ 64) = true := decide_eq_true (by omega)
 clear c2
 obtain ⟨t284, A3, H⟩ := xO H
 (try dsimp only at H)
 obtain rfl := Option.some.inj H
 go_enter Try.func233, Try.ntmps233
 go_wp2_with (first | (go_at_call 369; (with_reducible refine (slices_ContainsFunc_int_int_impl_isSignal_c1.calls k _ _ l0 t284 _ ?side1 ?side2 A3.out).mono ?_); (case side1 => exact xC HR0.out); (case side2 => exact HC0.out); rintro e w' ⟨rfl, ⟨nd, rfl⟩⟩))
 go_ret
 exact ⟨by first | rfl | (simp; done) | (simp [*]; done), by repeat (first | exact Drawn0.refl _ | apply Drawn0.step)⟩
/-! ### impl_told: function 239 -/
def impl_told.f (k : Nat) (l0 : List Int) : Option (List Int × Bool) := (impl_isSignal.f k l0).bind fun t285 => (if t285 = true then (some (l0, true)) else (some (([] : List Int), false)))
theorem impl_told.mono : ∀ a0 k, LeO (impl_told.f k a0) (impl_told.f (k + 1) a0) := by
 intro a0 k
 have m0 := @impl_isSignal.mono
 unfold impl_told.f
 exact xM
set_option maxHeartbeats 8000000 in
set_option maxRecDepth 100000 in
theorem impl_told.calls (k : Nat) (P0_ : Nat → Prop) (u9000_ : Value) (l0 : List Int) (r1 : List Int) (r2 : Bool) (w0 w : World) (hB : Below w0.heap.size w0 w) (ho0 : Kd.R (Kd.int .i64) 3 w w0.heap.size P0_ u9000_ l0) (h : impl_told.f k l0 = some (r1, r2)) :
  Calls Try.prog 239 #[u9000_] w fun e w' => ∃ v0_ : Value, e = .returned (.tuple #[v0_, .bool r2]) ∧ Kd.R (Kd.int .i64) 3 w' w0.heap.size (fun k_ => (P0_ k_ ∨ w.heap.size ≤ k_)) v0_ r1 ∧ Below w0.heap.size w0 w' ∧ Kept w w' (fun k_ => P0_ k_) := by
 have HO0 := Aside0.mk (show Kd.R (Kd.int .i64) 3 w w0.heap.size (fun k_ => (P0_ k_ ∨ w.heap.size ≤ k_)) u9000_ l0 from Kd.R_mono ho0 (fun k_ hk => (.inl hk)))
 have HK := Aside0.mk (Kept.refl w (fun k_ => P0_ k_))
 have HW0 := Aside0.mk hB.size
 have HB := Aside0.mk hB
 clear hB
 have H : ((impl_isSignal.f k l0).bind fun t285 => (if t285 = true then (some (l0, true)) else (some (([] : List Int), false)))) = some (r1, r2) := h
 clear h
 obtain ⟨t285, A2, H⟩ := xO H
 (try dsimp only at H)
 by_cases c3 : t285 = true
 ·subst c3
  rw [if_pos rfl] at H
  simp only [Option.some.injEq, Prod.mk.injEq] at H
  obtain ⟨rfl, rfl⟩ := H
  obtain ⟨Ao4, co4, eo4⟩ := Kd.R_slice HO0.out
  subst eo4
  go_enter Try.func239, Try.ntmps239
  go_wp2_with (first | (refine xG (some 5) Try.func233 #[.slice Ao4 l0.length co4] ?_; (with_reducible refine (impl_isSignal.calls k _ _ l0 true _ ?side1 ?side2 A2.out).mono ?_); (case side1 => exact xC ((Kd.R_reads' HO0.out).2.2)); (case side2 => exact (Kd.R_reads' HO0.out).2.1); rintro e w' ⟨rfl, ⟨nd, rfl⟩⟩; refine ⟨_, rfl, ?_⟩))
  go_ret2
  exact ⟨_, by first | rfl | (simp [errW_none, errW_some] <;> rfl) | (simp [*, errW_none, errW_some] <;> rfl), xR HO0.out, xB HB.out, by repeat (first | (with_reducible first | exact HK.out | apply Kept.alloc | apply Kept.drewN | apply Kept.drew) | exact HK.out)⟩
 replace c3 := Bool.eq_false_iff.mpr c3
 subst c3
 rw [if_neg (show ¬ (false = true) by decide)] at H
 simp only [Option.some.injEq, Prod.mk.injEq] at H
 obtain ⟨rfl, rfl⟩ := H
 obtain ⟨Ao5, co5, eo5⟩ := Kd.R_slice HO0.out
 subst eo5
 go_enter Try.func239, Try.ntmps239
 go_wp2_with (first | (refine xG (some 5) Try.func233 #[.slice Ao5 l0.length co5] ?_; (with_reducible refine (impl_isSignal.calls k _ _ l0 false _ ?side1 ?side2 A2.out).mono ?_); (case side1 => exact xC ((Kd.R_reads' HO0.out).2.2)); (case side2 => exact (Kd.R_reads' HO0.out).2.1); rintro e w' ⟨rfl, ⟨nd, rfl⟩⟩; refine ⟨_, rfl, ?_⟩))
 go_ret2
 exact ⟨_, by first | rfl | (simp [errW_none, errW_some] <;> rfl) | (simp [*, errW_none, errW_some] <;> rfl), by first | exact Kd.R_nil _ _ _ _ _ | exact Kd.N_nil _ _ _ _ _ | exact Kd.V_nil _ _ _ _ _ | exact Kd.Q_nil _ _ _ _ _ | exact Kd.S_nil _ _ _ _ _, xB HB.out, by repeat (first | (with_reducible first | exact HK.out | apply Kept.alloc | apply Kept.drewN | apply Kept.drew) | exact HK.out)⟩

/-! ### impl_isWeights_c1: function 378 -/
def impl_isWeights_c1.f (a0 : Int) : Option (Bool) := (impl_in.f a0 (-1000) 1000).bind fun t286 => (some (!t286))
set_option maxHeartbeats 8000000 in
set_option maxRecDepth 100000 in
theorem impl_isWeights_c1.calls (a0 : Int) (r : Bool) (w : World) (h : impl_isWeights_c1.f a0 = some r) :
  Calls Try.prog 378 #[.int .i64 a0] w fun e w' => e = .returned (.bool r) ∧ Drawn0 w w' := by
 have H : ((impl_in.f a0 (-1000) 1000).bind fun t286 => (some (!t286))) = some r := h
 clear h
 obtain ⟨t286, A2, H⟩ := xO H
 (try dsimp only at H)
 obtain rfl := Option.some.inj H
 go_enter Try.func378, Try.ntmps378
 go_wp2_with (first | (refine xG (some 4) Try.func223 #[.int .i64 a0, .int .i64 (-1000), .int .i64 1000] ?_; (with_reducible refine (impl_in.calls a0 (-1000) 1000 t286 _ A2.out).mono ?_); rintro e w' ⟨rfl, ⟨nd, rfl⟩⟩; refine ⟨_, rfl, ?_⟩))
 go_ret
 exact ⟨by first | rfl | (simp; done) | (simp [*]; done), by repeat (first | exact Drawn0.refl _ | apply Drawn0.step)⟩

/-! ### slices_IndexFunc_int_int_impl_isWeights_c1: function 425 -/
def slices_IndexFunc_int_int_impl_isWeights_c1.l0 : Nat → List Int → Int → Int → Option (Int)
 | 0, _, _, _ => none
 | k + 1, x0, x7, x8 => if x8 < x7 then (if 0 ≤ x8 then (if x8 < (x0.length : Int) then ((impl_isWeights_c1.f (rd x0 x8)).bind fun t288 => (if t288 = true then (some x8) else (slices_IndexFunc_int_int_impl_isWeights_c1.l0 k x0 x7 (wrap64 (x8 + 1))))) else (none)) else (none)) else (some (-1))
def slices_IndexFunc_int_int_impl_isWeights_c1.f (k : Nat) (l0 : List Int) : Option (Int) := slices_IndexFunc_int_int_impl_isWeights_c1.l0 k l0 (l0.length : Int) 0
theorem slices_IndexFunc_int_int_impl_isWeights_c1.mono_l : ∀ k, (∀ y0 y1 y2, LeO (slices_IndexFunc_int_int_impl_isWeights_c1.l0 k y0 y1 y2) (slices_IndexFunc_int_int_impl_isWeights_c1.l0 (k + 1) y0 y1 y2))
 | 0 => fun _ _ _ r h => by simp [slices_IndexFunc_int_int_impl_isWeights_c1.l0] at h
 | k + 1 => by
  have ih0 := slices_IndexFunc_int_int_impl_isWeights_c1.mono_l k
  intros
  unfold slices_IndexFunc_int_int_impl_isWeights_c1.l0
  exact xM
theorem slices_IndexFunc_int_int_impl_isWeights_c1.mono : ∀ a0 k, LeO (slices_IndexFunc_int_int_impl_isWeights_c1.f k a0) (slices_IndexFunc_int_int_impl_isWeights_c1.f (k + 1) a0) := by
 intro a0 k
 have ih0 := slices_IndexFunc_int_int_impl_isWeights_c1.mono_l k
 unfold slices_IndexFunc_int_int_impl_isWeights_c1.f
 exact xM
set_option maxHeartbeats 8000000 in
set_option maxRecDepth 100000 in
theorem slices_IndexFunc_int_int_impl_isWeights_c1.calls (k : Nat) (A0 : Option Addr) (c0 : Nat) (l0 : List Int) (r : Int) (w : World) (hr0 : Kd.C (Kd.int .i64) w A0 l0.length l0) (hc0 : l0.length ≤ c0) (h : slices_IndexFunc_int_int_impl_isWeights_c1.f k l0 = some r) :
  Calls Try.prog 398 #[.slice A0 l0.length c0, .func (.func 378) #[] #[]] w fun e w' => e = .returned (.int .i64 r) ∧ Drawn0 w w' := by
 have HR0 := Aside0.mk hr0
 have HC0 := Aside0.mk hc0
 clear hr0 hc0
 have H : (slices_IndexFunc_int_int_impl_isWeights_c1.l0 k l0 (l0.length : Int) 0) = some r := h
 clear h
 have H' := Aside0.mk H
 clear H
 go_enter Try.func398, Try.ntmps398
 go_wp2
 go_loopg [8] k (fun kq v8 w' => ∃ (x8_1 : Int), v8 = .int .i64 x8_1 ∧ Aside0 (slices_IndexFunc_int_int_impl_isWeights_c1.l0 kq l0 (l0.length : Int) x8_1 = some r) ∧ Aside0 (kq ≤ k) ∧ Drawn0 w w')
 case atStart => exact ⟨(0), (by first | rfl | (simp; done) | (simp [*]; done)), H', ⟨Nat.le_refl _⟩, by repeat (first | exact Drawn0.refl _ | apply Drawn0.step)⟩
 case round =>
  clear H'
  obtain ⟨x8_1, rfl, HA, HK1, ⟨m1, rfl⟩⟩ := hrel
  cases gk with
  | zero => exact absurd HA.out (by simp [slices_IndexFunc_int_int_impl_isWeights_c1.l0])
  | succ k1 =>
   have H := HA.out
   clear HA
   simp only [slices_IndexFunc_int_int_impl_isWeights_c1.l0] at H
   by_cases c2 : x8_1 < (l0.length : Int)
   rotate_left
   ·rw [if_neg c2] at H
    have c2b0 : decide (x8_1 < (l0.length : Int)) = false := decide_eq_false c2
    clear c2
    obtain rfl := Option.some.inj H
    go_wp2
    go_ret
    exact ⟨by first | rfl | (simp; done) | (simp [*]; done), by repeat (first | exact Drawn0.refl _ | apply Drawn0.step)⟩

   rw [if_pos c2] at H
   have c2b0 : decide (x8_1 < (l0.length : Int)) = true := decide_eq_true c2
   clear c2
   by_cases c3 : 0 ≤ x8_1
   rotate_left
   ·rw [if_neg c3] at H
    exact absurd H (by simp)
   rw [if_pos c3] at H
   have c3b0 : decide (0 ≤ x8_1) = true := decide_eq_true c3
   clear c3
   by_cases c4 : x8_1 < (l0.length : Int)
   rotate_left
   ·rw [if_neg c4] at H
    exact absurd H (by simp)
   rw [if_pos c4] at H
   have c4b0 : decide (x8_1 < (l0.length : Int)) = true := decide_eq_true c4
   clear c4
   obtain ⟨t288, A5, H⟩ := xO H
   (try dsimp only at H)
   by_cases c6 : t288 = true
   ·subst c6
    rw [if_pos rfl] at H
    obtain rfl := Option.some.inj H
    have p287 : 0 ≤ (x8_1 : Int) := of_decide_eq_true (by first | (with_reducible assumption) | assumption)
    have q287 : x8_1 < (l0.length : Int) := of_decide_eq_true (by first | (with_reducible assumption) | assumption)
    obtain ⟨ad287, e287, hx287_0⟩ := Kd.at_int HR0.out x8_1 p287 q287
    cases e287
    replace p287 := eq_true p287
    replace q287 := eq_true q287
    go_wp2_with (first | (go_at_call 378; (with_reducible refine (impl_isWeights_c1.calls (rd l0 x8_1) true _ A5.out).mono ?_); rintro e w' ⟨rfl, ⟨nd, rfl⟩⟩))
    go_ret
    exact ⟨by first | rfl | (simp; done) | (simp [*]; done), by repeat (first | exact Drawn0.refl _ | apply Drawn0.step)⟩
   replace c6 := Bool.eq_false_iff.mpr c6
   subst c6
   rw [if_neg (show ¬ (false = true) by decide)] at H
   have H' := Aside0.mk H
   clear H
   have p287 : 0 ≤ (x8_1 : Int) := of_decide_eq_true (by first | (with_reducible assumption) | assumption)
   have q287 : x8_1 < (l0.length : Int) := of_decide_eq_true (by first | (with_reducible assumption) | assumption)
   obtain ⟨ad287, e287, hx287_0⟩ := Kd.at_int HR0.out x8_1 p287 q287
   cases e287
   replace p287 := eq_true p287
   replace q287 := eq_true q287
   go_wp2_with (first | (go_at_call 378; (with_reducible refine (impl_isWeights_c1.calls (rd l0 x8_1) false _ A5.out).mono ?_); rintro e w' ⟨rfl, ⟨nd, rfl⟩⟩))
   go_roundg k1
   case measure => have := HK1.out; omega
   case rel => exact ⟨(wrap64 (x8_1 + 1)), (by first | rfl | (simp; done) | (simp [*]; done)), H', ⟨by have := HK1.out; omega⟩, by repeat (first | exact Drawn0.refl _ | apply Drawn0.step)⟩
/-! ### slices_ContainsFunc_int_int_impl_isWeights_c1: function 424 -/
def slices_ContainsFunc_int_int_impl_isWeights_c1.f (k : Nat) (l0 : List Int) : Option (Bool) := (slices_IndexFunc_int_int_impl_isWeights_c1.f k l0).bind fun t289 => (some (decide (t289 ≥ 0)))
theorem slices_ContainsFunc_int_int_impl_isWeights_c1.mono : ∀ a0 k, LeO (slices_ContainsFunc_int_int_impl_isWeights_c1.f k a0) (slices_ContainsFunc_int_int_impl_isWeights_c1.f (k + 1) a0) := by
 intro a0 k
 have m0 := @slices_IndexFunc_int_int_impl_isWeights_c1.mono
 unfold slices_ContainsFunc_int_int_impl_isWeights_c1.f
 exact xM
set_option maxHeartbeats 8000000 in
set_option maxRecDepth 100000 in
theorem slices_ContainsFunc_int_int_impl_isWeights_c1.calls (k : Nat) (A0 : Option Addr) (c0 : Nat) (l0 : List Int) (r : Bool) (w : World) (hr0 : Kd.C (Kd.int .i64) w A0 l0.length l0) (hc0 : l0.length ≤ c0) (h : slices_ContainsFunc_int_int_impl_isWeights_c1.f k l0 = some r) :
  Calls Try.prog 369 #[.slice A0 l0.length c0, .func (.func 378) #[] #[]] w fun e w' => e = .returned (.bool r) ∧ Drawn0 w w' := by
 have HR0 := Aside0.mk hr0
 have HC0 := Aside0.mk hc0
 clear hr0 hc0
 have H : ((slices_IndexFunc_int_int_impl_isWeights_c1.f k l0).bind fun t289 => (some (decide (t289 ≥ 0)))) = some r := h
 clear h
 obtain ⟨t289, A2, H⟩ := xO H
 (try dsimp only at H)
 obtain rfl := Option.some.inj H
 go_enter Try.func369, Try.ntmps369
 go_wp2_with (first | (refine xG (some 7) Try.func398 #[.slice A0 l0.length c0, .func (.func 378) #[] #[]] ?_; (with_reducible refine (slices_IndexFunc_int_int_impl_isWeights_c1.calls k _ _ l0 t289 _ ?side1 ?side2 A2.out).mono ?_); (case side1 => exact xC HR0.out); (case side2 => exact HC0.out); rintro e w' ⟨rfl, ⟨nd, rfl⟩⟩; refine ⟨_, rfl, ?_⟩))
 go_ret
 exact ⟨by first | rfl | (simp; done) | (simp [*]; done), by repeat (first | exact Drawn0.refl _ | apply Drawn0.step)⟩

/-! ### impl_isWeights: function 259 -/
def impl_isWeights.f (k : Nat) (l0 : List Int) : Option (Bool) := (impl_in.f (l0.length : Int) 1 9).bind fun t290 => (if t290 = true then ((slices_ContainsFunc_int_int_impl_isWeights_c1.f k l0).bind fun t291 => (some (!t291))) else (some false))
theorem impl_isWeights.mono : ∀ a0 k, LeO (impl_isWeights.f k a0) (impl_isWeights.f (k + 1) a0) := by
 intro a0 k
 have m0 := @slices_ContainsFunc_int_int_impl_isWeights_c1.mono
 unfold impl_isWeights.f
 exact xM
set_option maxHeartbeats 8000000 in
set_option maxRecDepth 100000 in
theorem impl_isWeights.calls (k : Nat) (A0 : Option Addr) (c0 : Nat) (l0 : List Int) (r : Bool) (w : World) (hr0 : Kd.C (Kd.int .i64) w A0 l0.length l0) (hc0 : l0.length ≤ c0) (h : impl_isWeights.f k l0 = some r) :
  Calls Try.prog 259 #[.slice A0 l0.length c0] w fun e w' => e = .returned (.bool r) ∧ Drawn0 w w' := by
 have HR0 := Aside0.mk hr0
 have HC0 := Aside0.mk hc0
 clear hr0 hc0
 have H : ((impl_in.f (l0.length : Int) 1 9).bind fun t290 => (if t290 = true then ((slices_ContainsFunc_int_int_impl_isWeights_c1.f k l0).bind fun t291 => (some (!t291))) else (some false))) = some r := h
 clear h
 obtain ⟨t290, A2, H⟩ := xO H
 (try dsimp only at H)
 by_cases c3 : t290 = true
 rotate_left
 ·replace c3 := Bool.eq_false_iff.mpr c3
  subst c3
  rw [if_neg (show ¬ (false = true) by decide)] at H
  obtain rfl := Option.some.inj H
  go_enter Try.func259, Try.ntmps259
  go_wp2_with (first | (refine xG (some 5) Try.func223 #[.int .i64 (l0.length : Int), .int .i64 1, .int .i64 9] ?_; (with_reducible refine (impl_in.calls (l0.length : Int) 1 9 false _ A2.out).mono ?_); rintro e w' ⟨rfl, ⟨nd, rfl⟩⟩; refine ⟨_, rfl, ?_⟩))
  go_ret
  exact ⟨by first | rfl | (simp; done) | (simp [*]; done), by repeat (first | exact Drawn0.refl _ | apply Drawn0.step)⟩

 subst c3
 rw [if_pos rfl] at H
 obtain ⟨t291, A4, H⟩ := xO H
 (try dsimp only at H)
 obtain rfl := Option.some.inj H
 go_enter Try.func259, Try.ntmps259
 go_wp2_with (first | (refine xG (some 5) Try.func223 #[.int .i64 (l0.length : Int), .int .i64 1, .int .i64 9] ?_; (with_reducible refine (impl_in.calls (l0.length : Int) 1 9 true _ A2.out).mono ?_); rintro e w' ⟨rfl, ⟨nd, rfl⟩⟩; refine ⟨_, rfl, ?_⟩) | (go_at_call 369; (with_reducible refine (slices_ContainsFunc_int_int_impl_isWeights_c1.calls k _ _ l0 t291 _ ?side1 ?side2 A4.out).mono ?_); (case side1 => exact xC HR0.out); (case side2 => exact HC0.out); rintro e w' ⟨rfl, ⟨nd, rfl⟩⟩))
 go_ret
 exact ⟨by first | rfl | (simp; done) | (simp [*]; done), by repeat (first | exact Drawn0.refl _ | apply Drawn0.step)⟩
/-! ### impl_isWord: function 260 -/
def impl_isWord.f (a0_0 : Int) (a0_1 : Bool) : Option (Bool) := (impl_in.f a0_0 2 16).bind fun t293 => (some t293)
set_option maxHeartbeats 8000000 in
set_option maxRecDepth 100000 in
theorem impl_isWord.calls (a0_0 : Int) (a0_1 : Bool) (r : Bool) (w : World) (h : impl_isWord.f a0_0 a0_1 = some r) :
  Calls Try.prog 260 #[.agg #[.int .i64 a0_0, .bool a0_1]] w fun e w' => e = .returned (.bool r) ∧ Below w.heap.size w w' := by
 have hu46 := Try.underlying46
 have HB := Aside0.mk (Below.refl w.heap.size w)
 have H : ((impl_in.f a0_0 2 16).bind fun t293 => (some t293)) = some r := h
 clear h
 obtain ⟨t293, A2, H⟩ := xO H
 (try dsimp only at H)
 obtain rfl := Option.some.inj H
 go_enter Try.func260, Try.ntmps260
 go_wp2_with (first | (refine xV 1 #[.int .i64 a0_0, .bool a0_1] 46 ?_; intro gb292 hg w3 hbox hb; have BK292 := Aside0.mk (hbox); have GW292 := Aside0.mk ((by rw [hg]; exact (below_size (xB HB.out)) : w.heap.size ≤ gb292)); have GE292 := Aside0.mk ((by rw [hg]; exact (below_size (xB HB.out)) : w.heap.size ≤ gb292)); replace HB := Aside0.mk (below_step (xB HB.out) hb); clear hb hbox hg; have hcz4_0 : w3.cell? ⟨gb292, 0, none⟩ = some (.int .i64 a0_0) := (blk_cell BK292.out 0).trans rfl; have hcz4_1 : w3.cell? ⟨gb292, 1, none⟩ = some (.bool a0_1) := (blk_cell BK292.out 1).trans rfl; have hfz4_0 := blk_frozen BK292.out 0; have hfz4_1 := blk_frozen BK292.out 1) | (refine xG (some 5) Try.func223 #[.int .i64 a0_0, .int .i64 2, .int .i64 16] ?_; (with_reducible refine (impl_in.calls a0_0 2 16 t293 _ A2.out).mono ?_); rintro e w' ⟨rfl, ⟨nd, rfl⟩⟩; refine ⟨_, rfl, ?_⟩))
 go_ret
 exact ⟨by first | rfl | (simp [errW_none, errW_some] <;> rfl) | (simp [*, errW_none, errW_some] <;> rfl), by repeat (first | (with_reducible first | exact HB.out | apply below_alloc | apply pw_below_drewN | apply below_drew1 | refine below_set ?_ GE292.out) | exact HB.out)⟩

/-! ### impl_isShift: function 263 -/
def impl_isShift.f (a0 : Int) (a1 : Int) : Option (Bool) := (impl_in.f a0 0 20).bind fun t294 => (if t294 = true then ((impl_in.f a1 0 2).bind fun t295 => (some t295)) else (some false))
set_option maxHeartbeats 8000000 in
set_option maxRecDepth 100000 in
theorem impl_isShift.calls (a0 : Int) (a1 : Int) (r : Bool) (w : World) (h : impl_isShift.f a0 a1 = some r) :
  Calls Try.prog 263 #[.int .i64 a0, .int .i64 a1] w fun e w' => e = .returned (.bool r) ∧ Drawn0 w w' := by
 have H : ((impl_in.f a0 0 20).bind fun t294 => (if t294 = true then ((impl_in.f a1 0 2).bind fun t295 => (some t295)) else (some false))) = some r := h
 clear h
 obtain ⟨t294, A3, H⟩ := xO H
 (try dsimp only at H)
 by_cases c4 : t294 = true
 rotate_left
 ·replace c4 := Bool.eq_false_iff.mpr c4
  subst c4
  rw [if_neg (show ¬ (false = true) by decide)] at H
  obtain rfl := Option.some.inj H
  go_enter Try.func263, Try.ntmps263
  go_wp2_with (first | (refine xG (some 6) Try.func223 #[.int .i64 a0, .int .i64 0, .int .i64 20] ?_; (with_reducible refine (impl_in.calls a0 0 20 false _ A3.out).mono ?_); rintro e w' ⟨rfl, ⟨nd, rfl⟩⟩; refine ⟨_, rfl, ?_⟩))
  go_ret
  exact ⟨by first | rfl | (simp; done) | (simp [*]; done), by repeat (first | exact Drawn0.refl _ | apply Drawn0.step)⟩

 subst c4
 rw [if_pos rfl] at H
 obtain ⟨t295, A5, H⟩ := xO H
 (try dsimp only at H)
 obtain rfl := Option.some.inj H
 go_enter Try.func263, Try.ntmps263
 go_wp2_with (first | (refine xG (some 6) Try.func223 #[.int .i64 a0, .int .i64 0, .int .i64 20] ?_; (with_reducible refine (impl_in.calls a0 0 20 true _ A3.out).mono ?_); rintro e w' ⟨rfl, ⟨nd, rfl⟩⟩; refine ⟨_, rfl, ?_⟩) | (go_at_call 223; (with_reducible refine (impl_in.calls a1 0 2 t295 _ A5.out).mono ?_); rintro e w' ⟨rfl, ⟨nd, rfl⟩⟩))
 go_ret
 exact ⟨by first | rfl | (simp; done) | (simp [*]; done), by repeat (first | exact Drawn0.refl _ | apply Drawn0.step)⟩
/-! ### impl_Word_ends: function 261 -/
def impl_Word_ends.f (a0_0 : Int) (a0_1 : Bool) : Option (Int × Int) := if 0 ≤ (wrap64 (a0_0 - 1)) then (some (wrap64 (-(shl .i64 1 (wrap64 (a0_0 - 1)))), wrap64 ((shl .i64 1 (wrap64 (a0_0 - 1))) - 1))) else (none)
set_option maxHeartbeats 8000000 in
set_option maxRecDepth 100000 in
theorem impl_Word_ends.calls (a0_0 : Int) (a0_1 : Bool) (r1 : Int) (r2 : Int) (w : World) (h : impl_Word_ends.f a0_0 a0_1 = some (r1, r2)) :
  Calls Try.prog 261 #[.agg #[.int .i64 a0_0, .bool a0_1]] w fun e w' => e = .returned (.tuple #[.int .i64 r1, .int .i64 r2]) ∧ Below w.heap.size w w' := by
 have hu46 := Try.underlying46
 have HB := Aside0.mk (Below.refl w.heap.size w)
 have H : (if 0 ≤ (wrap64 (a0_0 - 1)) then (some (wrap64 (-(shl .i64 1 (wrap64 (a0_0 - 1)))), wrap64 ((shl .i64 1 (wrap64 (a0_0 - 1))) - 1))) else (none)) = some (r1, r2) := h
 clear h
 obtain ⟨ji2, hji2⟩ : ∃ j_ : Int, (wrap64 (a0_0 - 1)) = j_ := ⟨_, rfl⟩
 replace H : (if 0 ≤ (ji2) then (some (wrap64 (-(shl .i64 1 (ji2))), wrap64 ((shl .i64 1 (ji2)) - 1))) else (none)) = some (r1, r2) := by first | (rw [hji2] at H; exact H) | (simp only [hji2] at H ⊢; exact H)
 have hji2w : (IntKind.i64.wrap (a0_0 - 1)) = ji2 := (i64_w _).trans hji2
 by_cases c3 : 0 ≤ (ji2)
 rotate_left
 ·rw [if_neg c3] at H
  exact absurd H (by simp)

 rw [if_pos c3] at H
 have c3b0 := eq_true c3
 have c3b1 : decide (0 ≤ (ji2)) = true := decide_eq_true c3
 clear c3
 obtain ⟨ji4, hji4⟩ : ∃ j_ : Int, (shl .i64 1 (ji2)) = j_ := ⟨_, rfl⟩
 replace H : (some (wrap64 (-(ji4)), wrap64 ((ji4) - 1))) = some (r1, r2) := by first | (rw [hji4] at H; exact H) | (simp only [hji4] at H ⊢; exact H)
 have hji4_ : (IntKind.i64.wrap (1 * 2 ^ min (ji2).toNat 64)) = ji4 := hji4
 have hji4z : (ji2) ≤ 64 → (IntKind.i64.wrap (1 * 2 ^ (ji2).toNat)) = ji4 := shl_small hji4
 have hji4u : (IntKind.i64.wrap (2 ^ min (ji2).toNat 64)) = ji4 := by have h_ := hji4_; rw [Int.one_mul] at h_; exact h_
 have hji4v : (ji2) ≤ 64 → (IntKind.i64.wrap (2 ^ (ji2).toNat)) = ji4 := fun hle_ => by have h_ := hji4z hle_; rw [Int.one_mul] at h_; exact h_
 have hji4y : (wrap64 (1 * 2 ^ min (ji2).toNat 64)) = ji4 := (i64_w _).symm.trans hji4_
 have hji4x : (ji2) ≤ 64 → (wrap64 (1 * 2 ^ (ji2).toNat)) = ji4 := fun h_ => (i64_w _).symm.trans (hji4z h_)
 simp only [Option.some.injEq, Prod.mk.injEq] at H
 obtain ⟨rfl, rfl⟩ := H
 go_enter Try.func261, Try.ntmps261
 go_wp2_with (first | (refine xV 1 #[.int .i64 a0_0, .bool a0_1] 46 ?_; intro gb296 hg w5 hbox hb; have BK296 := Aside0.mk (hbox); have GW296 := Aside0.mk ((by rw [hg]; exact (below_size (xB HB.out)) : w.heap.size ≤ gb296)); have GE296 := Aside0.mk ((by rw [hg]; exact (below_size (xB HB.out)) : w.heap.size ≤ gb296)); replace HB := Aside0.mk (below_step (xB HB.out) hb); clear hb hbox hg; have hcz6_0 : w5.cell? ⟨gb296, 0, none⟩ = some (.int .i64 a0_0) := (blk_cell BK296.out 0).trans rfl; have hcz6_1 : w5.cell? ⟨gb296, 1, none⟩ = some (.bool a0_1) := (blk_cell BK296.out 1).trans rfl; have hfz6_0 := blk_frozen BK296.out 0; have hfz6_1 := blk_frozen BK296.out 1))
 go_ret2
 exact ⟨by first | rfl | (simp [errW_none, errW_some] <;> rfl) | (simp only [← hji2, ← hji4]; first | rfl | (simp [errW_none, errW_some] <;> rfl)) | (simp [*, errW_none, errW_some] <;> rfl), by repeat (first | (with_reducible first | exact HB.out | apply below_alloc | apply pw_below_drewN | apply below_drew1 | refine below_set ?_ GE296.out) | exact HB.out)⟩
/-! ### impl_Word_has: function 291 -/
def impl_Word_has.f (a0_0 : Int) (a0_1 : Bool) (a1 : Int) : Option (Bool) := (impl_Word_ends.f a0_0 a0_1).bind fun bt298 => ((impl_in.f a1 bt298.1 bt298.2).bind fun t300 => (some t300))
set_option maxHeartbeats 8000000 in
set_option maxRecDepth 100000 in
theorem impl_Word_has.calls (a0_0 : Int) (a0_1 : Bool) (a1 : Int) (r : Bool) (w : World) (h : impl_Word_has.f a0_0 a0_1 a1 = some r) :
  Calls Try.prog 291 #[.agg #[.int .i64 a0_0, .bool a0_1], .int .i64 a1] w fun e w' => e = .returned (.bool r) ∧ Below w.heap.size w w' := by
 have hu46 := Try.underlying46
 have HB := Aside0.mk (Below.refl w.heap.size w)
 have H : ((impl_Word_ends.f a0_0 a0_1).bind fun bt298 => ((impl_in.f a1 bt298.1 bt298.2).bind fun t300 => (some t300))) = some r := h
 clear h
 replace H := Option.bind_eq_some_iff.mp H
 obtain ⟨⟨t298, t299⟩, A30, H⟩ := H
 (try dsimp only at H)
 have A3 := Aside0.mk A30
 clear A30
 obtain ⟨t300, A4, H⟩ := xO H
 (try dsimp only at H)
 obtain rfl := Option.some.inj H
 go_enter Try.func291, Try.ntmps291
 go_wp2_with (first | (refine xV 2 #[.int .i64 a0_0, .bool a0_1] 46 ?_; intro gb297 hg w5 hbox hb; have BK297 := Aside0.mk (hbox); have GW297 := Aside0.mk ((by rw [hg]; exact (below_size (xB HB.out)) : w.heap.size ≤ gb297)); have GE297 := Aside0.mk ((by rw [hg]; exact (below_size (xB HB.out)) : w.heap.size ≤ gb297)); replace HB := Aside0.mk (below_step (xB HB.out) hb); clear hb hbox hg; have hcz6_0 : w5.cell? ⟨gb297, 0, none⟩ = some (.int .i64 a0_0) := (blk_cell BK297.out 0).trans rfl; have hcz6_1 : w5.cell? ⟨gb297, 1, none⟩ = some (.bool a0_1) := (blk_cell BK297.out 1).trans rfl; have hfz6_0 := blk_frozen BK297.out 0; have hfz6_1 := blk_frozen BK297.out 1) | (refine xG (some 9) Try.func261 #[.agg #[.int .i64 a0_0, .bool a0_1]] ?_; (with_reducible refine (impl_Word_ends.calls a0_0 a0_1 t298 t299 _ A3.out).mono ?_); rintro e w7 ⟨rfl, hb⟩; refine ⟨_, rfl, ?_⟩; replace BK297 := Aside0.mk (blk_below (g := gb297) (o := .cells #[.int .i64 a0_0, .bool a0_1] 46 (0, 0)) (by (with_reducible repeat (first | refine blk_drewN ?_ _ | refine blk_drew ?_ | refine blk_alloc ?_ _)); exact BK297.out) hb); replace HB := Aside0.mk (below_step (by repeat (first | (with_reducible first | exact HB.out | apply below_alloc | apply pw_below_drewN | apply below_drew1 | refine below_set ?_ GE297.out) | exact HB.out)) hb); (try clear hb); (try clear hb2); (try clear hk); (try clear hi)) | (refine xG (some 15) Try.func223 #[.int .i64 a1, .int .i64 t298, .int .i64 t299] ?_; (with_reducible refine (impl_in.calls a1 t298 t299 t300 _ A4.out).mono ?_); rintro e w' ⟨rfl, ⟨nd, rfl⟩⟩; refine ⟨_, rfl, ?_⟩))
 go_ret
 exact ⟨by first | rfl | (simp [errW_none, errW_some] <;> rfl) | (simp [*, errW_none, errW_some] <;> rfl), by repeat (first | (with_reducible first | exact HB.out | apply below_alloc | apply pw_below_drewN | apply below_drew1 | refine below_set ?_ GE297.out) | exact HB.out)⟩

-- NOT PRINTED: function 398 (slices_IndexFunc_int_int)

-- NOT PRINTED: function 369 (slices_ContainsFunc_int_int)

-- NOT PRINTED: function 376 (impl_inWord_c1)

/-! ### impl_inWord_c1: function 376 (a closure that holds the word) -/
def impl_inWord_c1.f (a0 : Int) (b0 : Int) (b1 : Bool) : Option Bool := (impl_Word_has.f b0 b1 a0).bind fun t => some (!t)
set_option maxHeartbeats 8000000 in
set_option maxRecDepth 100000 in
theorem impl_inWord_c1.calls (a0 : Int) (b0 : Int) (b1 : Bool) (r : Bool) (w : World) (q0 : Nat) (hq0 : w.heap[q0]? = some (.cells #[.int .i64 b0, .bool b1] 46 (0, 0))) (h : impl_inWord_c1.f a0 b0 b1 = some r) :
  Calls Try.prog 376 #[.int .i64 a0, .pointer (some ⟨q0, 0, none⟩)] w fun e w' => e = .returned (.bool r) ∧ Below w.heap.size w w' := by
 have hu46 := Try.underlying46
 have hcq0 : w.cell? ⟨q0, 0, none⟩ = some (.int .i64 b0) := (blk_cell hq0 0).trans rfl
 have hcq1 : w.cell? ⟨q0, 1, none⟩ = some (.bool b1) := (blk_cell hq0 1).trans rfl
 clear hq0
 have HB := Aside0.mk (Below.refl w.heap.size w)
 have H : ((impl_Word_has.f b0 b1 a0).bind fun t => some (!t)) = some r := h
 clear h
 replace H := Option.bind_eq_some_iff.mp H
 obtain ⟨t1, A30, H⟩ := H
 have A3 := Aside0.mk A30
 clear A30
 obtain rfl := Option.some.inj H
 go_enter Try.func376, Try.ntmps376
 go_wp2_with (first | (go_at_call 291; (with_reducible refine (impl_Word_has.calls b0 b1 a0 t1 _ A3.out).mono ?_); rintro e w7 ⟨rfl, hb⟩; have n0_ := Aside0.mk (below_step (xB HB.out) hb); clear HB; have HB := n0_; clear n0_ hb))
 go_ret
 exact ⟨by first | rfl | (simp; done) | (simp [*]; done), xB HB.out⟩
/-! ### slices.IndexFunc over it: function 398 -/
def impl_inWord_ix.l0 : Nat → List Int → Int → Bool → Int → Option Int
 | 0, _, _, _, _ => none
 | k + 1, x0, b0, b1, x8 => if x8 < (x0.length : Int) then (if 0 ≤ x8 then ((impl_inWord_c1.f (rd x0 x8) b0 b1).bind fun t => (if t = true then (some x8) else (impl_inWord_ix.l0 k x0 b0 b1 (wrap64 (x8 + 1))))) else none) else (some (-1))
theorem impl_inWord_ix.mono_l : ∀ k, (∀ y0 y1 y2 y3, LeO (impl_inWord_ix.l0 k y0 y1 y2 y3) (impl_inWord_ix.l0 (k + 1) y0 y1 y2 y3))
 | 0 => fun _ _ _ _ r h => by simp [impl_inWord_ix.l0] at h
 | k + 1 => by
  have ih0 := impl_inWord_ix.mono_l k
  intros
  unfold impl_inWord_ix.l0
  exact xM
set_option maxHeartbeats 8000000 in
set_option maxRecDepth 100000 in
theorem impl_inWord_ix.calls (k : Nat) (A0 : Option Addr) (c0 : Nat) (l0 : List Int) (b0 : Int) (b1 : Bool) (r : Int) (w : World) (q0 : Nat) (hq0 : w.heap[q0]? = some (.cells #[.int .i64 b0, .bool b1] 46 (0, 0))) (hr0 : Kd.C (Kd.int .i64) w A0 l0.length l0) (hc0 : l0.length ≤ c0) (h : impl_inWord_ix.l0 k l0 b0 b1 0 = some r) :
  Calls Try.prog 398 #[.slice A0 l0.length c0, .func (.func 376) #[] #[.pointer (some ⟨q0, 0, none⟩)]] w fun e w' => e = .returned (.int .i64 r) ∧ Below w.heap.size w w' := by
 have HQ0 := Aside0.mk hq0
 have HR0 := Aside0.mk hr0
 have HC0 := Aside0.mk hc0
 clear hr0 hc0 hq0
 have HB := Aside0.mk (Below.refl w.heap.size w)
 have H' := Aside0.mk h
 clear h
 go_enter Try.func398, Try.ntmps398
 go_wp2
 go_loopg [8] k (fun kq v8 w' => ∃ (x8_1 : Int), v8 = .int .i64 x8_1 ∧ Aside0 (impl_inWord_ix.l0 kq l0 b0 b1 x8_1 = some r) ∧ Aside0 (kq ≤ k) ∧ Aside0 (Below w.heap.size w w'))
 case atStart => exact ⟨(0), (by first | rfl | (simp; done) | (simp [*]; done)), H', ⟨Nat.le_refl _⟩, HB⟩
 case round =>
  clear H' HB
  obtain ⟨x8_1, rfl, HA, HK1, HB⟩ := hrel
  cases gk with
  | zero => exact absurd HA.out (by simp [impl_inWord_ix.l0])
  | succ k1 =>
   have H := HA.out
   clear HA
   simp only [impl_inWord_ix.l0] at H
   by_cases c2 : x8_1 < (l0.length : Int)
   rotate_left
   ·rw [if_neg c2] at H
    have c2b0 : decide (x8_1 < (l0.length : Int)) = false := decide_eq_false c2
    clear c2
    obtain rfl := Option.some.inj H
    go_wp2
    go_ret
    exact ⟨by first | rfl | (simp; done) | (simp [*]; done), xB HB.out⟩
   rw [if_pos c2] at H
   by_cases c3 : 0 ≤ x8_1
   rotate_left
   ·rw [if_neg c3] at H
    exact absurd H (by simp)
   rw [if_pos c3] at H
   replace H := Option.bind_eq_some_iff.mp H
   obtain ⟨t1, A50, H⟩ := H
   have A5 := Aside0.mk A50
   clear A50
   obtain ⟨ad1, e1, hx1_0⟩ := Kd.at_int (Kd.C_below HR0.out HB.out) x8_1 c3 c2
   cases e1
   have c2b0 : decide (x8_1 < (l0.length : Int)) = true := decide_eq_true c2
   have c3b0 : decide (0 ≤ x8_1) = true := decide_eq_true c3
   replace c2 := eq_true c2
   replace c3 := eq_true c3
   by_cases c6 : t1 = true
   ·subst c6
    rw [if_pos rfl] at H
    obtain rfl := Option.some.inj H
    go_wp2_with (first | (go_at_call 376; (with_reducible refine (impl_inWord_c1.calls (rd l0 x8_1) b0 b1 true _ q0 ?sq0 A5.out).mono ?_); (case sq0 => exact blk_below HQ0.out HB.out); rintro e w8 ⟨rfl, hb⟩; have n0_ := Aside0.mk (below_step (xB HB.out) hb); clear HB; have HB := n0_; clear n0_ hb))
    go_ret
    exact ⟨by first | rfl | (simp; done) | (simp [*]; done), xB HB.out⟩
   replace c6 := Bool.eq_false_iff.mpr c6
   subst c6
   rw [if_neg (show ¬ (false = true) by decide)] at H
   have H' := Aside0.mk H
   clear H
   go_wp2_with (first | (go_at_call 376; (with_reducible refine (impl_inWord_c1.calls (rd l0 x8_1) b0 b1 false _ q0 ?sq0 A5.out).mono ?_); (case sq0 => exact blk_below HQ0.out HB.out); rintro e w8 ⟨rfl, hb⟩; have n0_ := Aside0.mk (below_step (xB HB.out) hb); clear HB; have HB := n0_; clear n0_ hb))
   go_roundg k1
   case measure => have := HK1.out; omega
   case rel => exact ⟨(wrap64 (x8_1 + 1)), (by first | rfl | (simp; done) | (simp [*]; done)), H', ⟨by have := HK1.out; omega⟩, ⟨xB HB.out⟩⟩
/-! ### slices.ContainsFunc over it: function 369 -/
def impl_inWord_cf.f (k : Nat) (l0 : List Int) (b0 : Int) (b1 : Bool) : Option Bool := (impl_inWord_ix.l0 k l0 b0 b1 0).bind fun t => some (decide (t ≥ 0))
set_option maxHeartbeats 8000000 in
set_option maxRecDepth 100000 in
theorem impl_inWord_cf.calls (k : Nat) (A0 : Option Addr) (c0 : Nat) (l0 : List Int) (b0 : Int) (b1 : Bool) (r : Bool) (w : World) (q0 : Nat) (hq0 : w.heap[q0]? = some (.cells #[.int .i64 b0, .bool b1] 46 (0, 0))) (hr0 : Kd.C (Kd.int .i64) w A0 l0.length l0) (hc0 : l0.length ≤ c0) (h : impl_inWord_cf.f k l0 b0 b1 = some r) :
  Calls Try.prog 369 #[.slice A0 l0.length c0, .func (.func 376) #[] #[.pointer (some ⟨q0, 0, none⟩)]] w fun e w' => e = .returned (.bool r) ∧ Below w.heap.size w w' := by
 have HQ0 := Aside0.mk hq0
 have HR0 := Aside0.mk hr0
 have HC0 := Aside0.mk hc0
 clear hr0 hc0 hq0
 have HB := Aside0.mk (Below.refl w.heap.size w)
 have H : ((impl_inWord_ix.l0 k l0 b0 b1 0).bind fun t => some (decide (t ≥ 0))) = some r := h
 clear h
 replace H := Option.bind_eq_some_iff.mp H
 obtain ⟨t1, A20, H⟩ := H
 have A2 := Aside0.mk A20
 clear A20
 obtain rfl := Option.some.inj H
 go_enter Try.func369, Try.ntmps369
 go_wp2_with (first | (go_at_call 398; (with_reducible refine (impl_inWord_ix.calls k _ _ l0 b0 b1 t1 _ q0 ?sq0 ?side1 ?side2 A2.out).mono ?_); (case sq0 => exact HQ0.out); (case side1 => exact HR0.out); (case side2 => exact HC0.out); rintro e w8 ⟨rfl, hb⟩; have n0_ := Aside0.mk (below_step (xB HB.out) hb); clear HB; have HB := n0_; clear n0_ hb))
 go_ret
 exact ⟨by first | rfl | (simp; done) | (simp [*]; done), xB HB.out⟩
/-! ### impl_inWord: function 252 -/
def impl_inWord.f (k : Nat) (a0_0 : Int) (a0_1 : Bool) (l1 l2 : List Int) (a3 a4 : Int) : Option Bool := (impl_isWord.f a0_0 a0_1).bind fun t0 => if t0 = true then ((impl_isWeights.f k l1).bind fun t1 => if t1 = true then ((impl_isSignal.f k l2).bind fun t2 => if t2 = true then ((impl_isShift.f a3 a4).bind fun t3 => if t3 = true then ((impl_inWord_cf.f k l1 a0_0 a0_1).bind fun t4 => if (!t4) = true then ((impl_inWord_cf.f k l2 a0_0 a0_1).bind fun t5 => some (!t5)) else some false) else some false) else some false) else some false) else some false
theorem impl_inWord.mono : ∀ a0 a1 a2 a3 a4 a5 k, LeO (impl_inWord.f k a0 a1 a2 a3 a4 a5) (impl_inWord.f (k + 1) a0 a1 a2 a3 a4 a5) := by
 intro a0 a1 a2 a3 a4 a5 k
 have ih0 := impl_inWord_ix.mono_l k
 unfold impl_inWord.f impl_inWord_cf.f
 repeat' first
 | (with_reducible exact ih0 _ _ _ _)
 | (with_reducible exact impl_isWeights.mono _ _)
 | (with_reducible exact impl_isSignal.mono _ _)
 | (with_reducible exact LeO.refl _)
 | (with_reducible exact LeO.none _)
 | (with_reducible refine LeO.ite ?_ ?_)
 | (with_reducible refine LeO.bind ?_ (fun _ => ?_))
 | exact ih0 _ _ _ _
 | exact impl_isWeights.mono _ _
 | exact impl_isSignal.mono _ _
 | exact LeO.none _
 | refine LeO.ite ?_ ?_
 | refine LeO.bind ?_ (fun _ => ?_)
set_option maxHeartbeats 8000000 in
set_option maxRecDepth 100000 in
theorem impl_inWord.calls (k : Nat) (a0_0 : Int) (a0_1 : Bool) (A1 : Option Addr) (c1 : Nat) (l1 : List Int) (A2 : Option Addr) (c2 : Nat) (l2 : List Int) (a3 : Int) (a4 : Int) (r : Bool) (w : World) (hr1 : Kd.C (Kd.int .i64) w A1 l1.length l1) (hc1 : l1.length ≤ c1) (hr2 : Kd.C (Kd.int .i64) w A2 l2.length l2) (hc2 : l2.length ≤ c2) (h : impl_inWord.f k a0_0 a0_1 l1 l2 a3 a4 = some r) :
  Calls Try.prog 252 #[.agg #[.int .i64 a0_0, .bool a0_1], .slice A1 l1.length c1, .slice A2 l2.length c2, .int .i64 a3, .int .i64 a4] w fun e w' => e = .returned (.bool r) ∧ Below w.heap.size w w' := by
 have hu46 := Try.underlying46
 have HR1 := Aside0.mk hr1
 have HC1 := Aside0.mk hc1
 have HR2 := Aside0.mk hr2
 have HC2 := Aside0.mk hc2
 clear hr1 hc1 hr2 hc2
 have HB := Aside0.mk (Below.refl w.heap.size w)
 have H : ((impl_isWord.f a0_0 a0_1).bind fun t0 => if t0 = true then ((impl_isWeights.f k l1).bind fun t1 => if t1 = true then ((impl_isSignal.f k l2).bind fun t2 => if t2 = true then ((impl_isShift.f a3 a4).bind fun t3 => if t3 = true then ((impl_inWord_cf.f k l1 a0_0 a0_1).bind fun t4 => if (!t4) = true then ((impl_inWord_cf.f k l2 a0_0 a0_1).bind fun t5 => some (!t5)) else some false) else some false) else some false) else some false) else some false) = some r := h
 clear h
 obtain ⟨t0, A0, H⟩ := xO H
 (try dsimp only at H)
 by_cases d0 : t0 = true
 rotate_left
 ·replace d0 := Bool.eq_false_iff.mpr d0
  subst d0
  rw [if_neg (show ¬ (false = true) by decide)] at H
  obtain rfl := Option.some.inj H
  go_enter Try.func252, Try.ntmps252
  go_wp2_with (first | (refine xV 5 #[.int .i64 a0_0, .bool a0_1] 46 ?_; intro gb1 hg w3 hbox hb; have n0_ := Aside0.mk (below_step (xB HB.out) hb); clear HB; have HB := n0_; have BK := Aside0.mk hbox; clear n0_ hb hbox hg; have hcz0 : w3.cell? ⟨gb1, 0, none⟩ = some (.int .i64 a0_0) := (blk_cell BK.out 0).trans rfl; have hcz1 : w3.cell? ⟨gb1, 1, none⟩ = some (.bool a0_1) := (blk_cell BK.out 1).trans rfl) | (go_at_call 260; (with_reducible refine (impl_isWord.calls a0_0 a0_1 false _ A0.out).mono ?_); rintro e w7 ⟨rfl, hb⟩; have n0_ := Aside0.mk (blk_below (g := gb1) (o := .cells #[.int .i64 a0_0, .bool a0_1] 46 (0, 0)) (by (with_reducible repeat (first | refine blk_drewN ?_ _ | refine blk_drew ?_ | refine blk_alloc ?_ _)); exact BK.out) hb); have n1_ := Aside0.mk (below_step (xB HB.out) hb); clear BK HB; have BK := n0_; have HB := n1_; clear n0_ n1_ hb))
  go_ret
  exact ⟨by first | rfl | (simp; done) | (simp [*]; done), xB HB.out⟩
 subst d0
 rw [if_pos rfl] at H
 obtain ⟨t1, A1, H⟩ := xO H
 (try dsimp only at H)
 by_cases d1 : t1 = true
 rotate_left
 ·replace d1 := Bool.eq_false_iff.mpr d1
  subst d1
  rw [if_neg (show ¬ (false = true) by decide)] at H
  obtain rfl := Option.some.inj H
  go_enter Try.func252, Try.ntmps252
  go_wp2_with (first | (refine xV 5 #[.int .i64 a0_0, .bool a0_1] 46 ?_; intro gb1 hg w3 hbox hb; have n0_ := Aside0.mk (below_step (xB HB.out) hb); clear HB; have HB := n0_; have BK := Aside0.mk hbox; clear n0_ hb hbox hg; have hcz0 : w3.cell? ⟨gb1, 0, none⟩ = some (.int .i64 a0_0) := (blk_cell BK.out 0).trans rfl; have hcz1 : w3.cell? ⟨gb1, 1, none⟩ = some (.bool a0_1) := (blk_cell BK.out 1).trans rfl) | (go_at_call 260; (with_reducible refine (impl_isWord.calls a0_0 a0_1 true _ A0.out).mono ?_); rintro e w7 ⟨rfl, hb⟩; have n0_ := Aside0.mk (blk_below (g := gb1) (o := .cells #[.int .i64 a0_0, .bool a0_1] 46 (0, 0)) (by (with_reducible repeat (first | refine blk_drewN ?_ _ | refine blk_drew ?_ | refine blk_alloc ?_ _)); exact BK.out) hb); have n1_ := Aside0.mk (below_step (xB HB.out) hb); clear BK HB; have BK := n0_; have HB := n1_; clear n0_ n1_ hb) | (go_at_call 259; (with_reducible refine (impl_isWeights.calls k _ _ l1 false _ ?side1 ?side2 A1.out).mono ?_); (case side1 => exact xC (Kd.C_below HR1.out HB.out)); (case side2 => exact HC1.out); rintro e w' ⟨rfl, ⟨nd, rfl⟩⟩))
  go_ret
  exact ⟨by first | rfl | (simp; done) | (simp [*]; done), xB HB.out⟩
 subst d1
 rw [if_pos rfl] at H
 obtain ⟨t2, A2, H⟩ := xO H
 (try dsimp only at H)
 by_cases d2 : t2 = true
 rotate_left
 ·replace d2 := Bool.eq_false_iff.mpr d2
  subst d2
  rw [if_neg (show ¬ (false = true) by decide)] at H
  obtain rfl := Option.some.inj H
  go_enter Try.func252, Try.ntmps252
  go_wp2_with (first | (refine xV 5 #[.int .i64 a0_0, .bool a0_1] 46 ?_; intro gb1 hg w3 hbox hb; have n0_ := Aside0.mk (below_step (xB HB.out) hb); clear HB; have HB := n0_; have BK := Aside0.mk hbox; clear n0_ hb hbox hg; have hcz0 : w3.cell? ⟨gb1, 0, none⟩ = some (.int .i64 a0_0) := (blk_cell BK.out 0).trans rfl; have hcz1 : w3.cell? ⟨gb1, 1, none⟩ = some (.bool a0_1) := (blk_cell BK.out 1).trans rfl) | (go_at_call 260; (with_reducible refine (impl_isWord.calls a0_0 a0_1 true _ A0.out).mono ?_); rintro e w7 ⟨rfl, hb⟩; have n0_ := Aside0.mk (blk_below (g := gb1) (o := .cells #[.int .i64 a0_0, .bool a0_1] 46 (0, 0)) (by (with_reducible repeat (first | refine blk_drewN ?_ _ | refine blk_drew ?_ | refine blk_alloc ?_ _)); exact BK.out) hb); have n1_ := Aside0.mk (below_step (xB HB.out) hb); clear BK HB; have BK := n0_; have HB := n1_; clear n0_ n1_ hb) | (go_at_call 259; (with_reducible refine (impl_isWeights.calls k _ _ l1 true _ ?side1 ?side2 A1.out).mono ?_); (case side1 => exact xC (Kd.C_below HR1.out HB.out)); (case side2 => exact HC1.out); rintro e w' ⟨rfl, ⟨nd, rfl⟩⟩) | (go_at_call 233; (with_reducible refine (impl_isSignal.calls k _ _ l2 false _ ?side1 ?side2 A2.out).mono ?_); (case side1 => exact xC (Kd.C_below HR2.out HB.out)); (case side2 => exact HC2.out); rintro e w' ⟨rfl, ⟨nd, rfl⟩⟩))
  go_ret
  exact ⟨by first | rfl | (simp; done) | (simp [*]; done), xB HB.out⟩
 subst d2
 rw [if_pos rfl] at H
 obtain ⟨t3, A3, H⟩ := xO H
 (try dsimp only at H)
 by_cases d3 : t3 = true
 rotate_left
 ·replace d3 := Bool.eq_false_iff.mpr d3
  subst d3
  rw [if_neg (show ¬ (false = true) by decide)] at H
  obtain rfl := Option.some.inj H
  go_enter Try.func252, Try.ntmps252
  go_wp2_with (first | (refine xV 5 #[.int .i64 a0_0, .bool a0_1] 46 ?_; intro gb1 hg w3 hbox hb; have n0_ := Aside0.mk (below_step (xB HB.out) hb); clear HB; have HB := n0_; have BK := Aside0.mk hbox; clear n0_ hb hbox hg; have hcz0 : w3.cell? ⟨gb1, 0, none⟩ = some (.int .i64 a0_0) := (blk_cell BK.out 0).trans rfl; have hcz1 : w3.cell? ⟨gb1, 1, none⟩ = some (.bool a0_1) := (blk_cell BK.out 1).trans rfl) | (go_at_call 260; (with_reducible refine (impl_isWord.calls a0_0 a0_1 true _ A0.out).mono ?_); rintro e w7 ⟨rfl, hb⟩; have n0_ := Aside0.mk (blk_below (g := gb1) (o := .cells #[.int .i64 a0_0, .bool a0_1] 46 (0, 0)) (by (with_reducible repeat (first | refine blk_drewN ?_ _ | refine blk_drew ?_ | refine blk_alloc ?_ _)); exact BK.out) hb); have n1_ := Aside0.mk (below_step (xB HB.out) hb); clear BK HB; have BK := n0_; have HB := n1_; clear n0_ n1_ hb) | (go_at_call 259; (with_reducible refine (impl_isWeights.calls k _ _ l1 true _ ?side1 ?side2 A1.out).mono ?_); (case side1 => exact xC (Kd.C_below HR1.out HB.out)); (case side2 => exact HC1.out); rintro e w' ⟨rfl, ⟨nd, rfl⟩⟩) | (go_at_call 233; (with_reducible refine (impl_isSignal.calls k _ _ l2 true _ ?side1 ?side2 A2.out).mono ?_); (case side1 => exact xC (Kd.C_below HR2.out HB.out)); (case side2 => exact HC2.out); rintro e w' ⟨rfl, ⟨nd, rfl⟩⟩) | (go_at_call 263; (with_reducible refine (impl_isShift.calls a3 a4 false _ A3.out).mono ?_); rintro e w' ⟨rfl, ⟨nd, rfl⟩⟩))
  go_ret
  exact ⟨by first | rfl | (simp; done) | (simp [*]; done), xB HB.out⟩
 subst d3
 rw [if_pos rfl] at H
 obtain ⟨t4, A4, H⟩ := xO H
 (try dsimp only at H)
 by_cases d4 : t4 = false
 rotate_left
 ·replace d4 : t4 = true := by simpa using d4
  subst d4
  rw [if_neg (show ¬ ((!true) = true) by decide)] at H
  obtain rfl := Option.some.inj H
  go_enter Try.func252, Try.ntmps252
  go_wp2_with (first | (refine xV 5 #[.int .i64 a0_0, .bool a0_1] 46 ?_; intro gb1 hg w3 hbox hb; have n0_ := Aside0.mk (below_step (xB HB.out) hb); clear HB; have HB := n0_; have BK := Aside0.mk hbox; clear n0_ hb hbox hg; have hcz0 : w3.cell? ⟨gb1, 0, none⟩ = some (.int .i64 a0_0) := (blk_cell BK.out 0).trans rfl; have hcz1 : w3.cell? ⟨gb1, 1, none⟩ = some (.bool a0_1) := (blk_cell BK.out 1).trans rfl) | (go_at_call 260; (with_reducible refine (impl_isWord.calls a0_0 a0_1 true _ A0.out).mono ?_); rintro e w7 ⟨rfl, hb⟩; have n0_ := Aside0.mk (blk_below (g := gb1) (o := .cells #[.int .i64 a0_0, .bool a0_1] 46 (0, 0)) (by (with_reducible repeat (first | refine blk_drewN ?_ _ | refine blk_drew ?_ | refine blk_alloc ?_ _)); exact BK.out) hb); have n1_ := Aside0.mk (below_step (xB HB.out) hb); clear BK HB; have BK := n0_; have HB := n1_; clear n0_ n1_ hb) | (go_at_call 259; (with_reducible refine (impl_isWeights.calls k _ _ l1 true _ ?side1 ?side2 A1.out).mono ?_); (case side1 => exact xC (Kd.C_below HR1.out HB.out)); (case side2 => exact HC1.out); rintro e w' ⟨rfl, ⟨nd, rfl⟩⟩) | (go_at_call 233; (with_reducible refine (impl_isSignal.calls k _ _ l2 true _ ?side1 ?side2 A2.out).mono ?_); (case side1 => exact xC (Kd.C_below HR2.out HB.out)); (case side2 => exact HC2.out); rintro e w' ⟨rfl, ⟨nd, rfl⟩⟩) | (go_at_call 263; (with_reducible refine (impl_isShift.calls a3 a4 true _ A3.out).mono ?_); rintro e w' ⟨rfl, ⟨nd, rfl⟩⟩) | (go_at_call 369; (with_reducible refine (impl_inWord_cf.calls k _ _ l1 a0_0 a0_1 true _ gb1 ?sq0 ?side1 ?side2 A4.out).mono ?_); (case sq0 => (with_reducible repeat (first | refine blk_drewN ?_ _ | refine blk_drew ?_ | refine blk_alloc ?_ _)); exact BK.out); (case side1 => exact xC (Kd.C_below HR1.out HB.out)); (case side2 => exact HC1.out); rintro e w9 ⟨rfl, hb⟩; have n0_ := Aside0.mk (blk_below (g := gb1) (o := .cells #[.int .i64 a0_0, .bool a0_1] 46 (0, 0)) (by (with_reducible repeat (first | refine blk_drewN ?_ _ | refine blk_drew ?_ | refine blk_alloc ?_ _)); exact BK.out) hb); have n1_ := Aside0.mk (below_step (xB HB.out) hb); clear BK HB; have BK := n0_; have HB := n1_; clear n0_ n1_ hb))
  go_ret
  exact ⟨by first | rfl | (simp; done) | (simp [*]; done), xB HB.out⟩
 subst d4
 rw [if_pos (show (!false) = true by rfl)] at H
 obtain ⟨t5, A5, H⟩ := xO H
 (try dsimp only at H)
 obtain rfl := Option.some.inj H
 go_enter Try.func252, Try.ntmps252
 go_wp2_with (first | (refine xV 5 #[.int .i64 a0_0, .bool a0_1] 46 ?_; intro gb1 hg w3 hbox hb; have n0_ := Aside0.mk (below_step (xB HB.out) hb); clear HB; have HB := n0_; have BK := Aside0.mk hbox; clear n0_ hb hbox hg; have hcz0 : w3.cell? ⟨gb1, 0, none⟩ = some (.int .i64 a0_0) := (blk_cell BK.out 0).trans rfl; have hcz1 : w3.cell? ⟨gb1, 1, none⟩ = some (.bool a0_1) := (blk_cell BK.out 1).trans rfl) | (go_at_call 260; (with_reducible refine (impl_isWord.calls a0_0 a0_1 true _ A0.out).mono ?_); rintro e w7 ⟨rfl, hb⟩; have n0_ := Aside0.mk (blk_below (g := gb1) (o := .cells #[.int .i64 a0_0, .bool a0_1] 46 (0, 0)) (by (with_reducible repeat (first | refine blk_drewN ?_ _ | refine blk_drew ?_ | refine blk_alloc ?_ _)); exact BK.out) hb); have n1_ := Aside0.mk (below_step (xB HB.out) hb); clear BK HB; have BK := n0_; have HB := n1_; clear n0_ n1_ hb) | (go_at_call 259; (with_reducible refine (impl_isWeights.calls k _ _ l1 true _ ?side1 ?side2 A1.out).mono ?_); (case side1 => exact xC (Kd.C_below HR1.out HB.out)); (case side2 => exact HC1.out); rintro e w' ⟨rfl, ⟨nd, rfl⟩⟩) | (go_at_call 233; (with_reducible refine (impl_isSignal.calls k _ _ l2 true _ ?side1 ?side2 A2.out).mono ?_); (case side1 => exact xC (Kd.C_below HR2.out HB.out)); (case side2 => exact HC2.out); rintro e w' ⟨rfl, ⟨nd, rfl⟩⟩) | (go_at_call 263; (with_reducible refine (impl_isShift.calls a3 a4 true _ A3.out).mono ?_); rintro e w' ⟨rfl, ⟨nd, rfl⟩⟩) | (go_at_call 369; (with_reducible refine (impl_inWord_cf.calls k _ _ l1 a0_0 a0_1 false _ gb1 ?sq0 ?side1 ?side2 A4.out).mono ?_); (case sq0 => (with_reducible repeat (first | refine blk_drewN ?_ _ | refine blk_drew ?_ | refine blk_alloc ?_ _)); exact BK.out); (case side1 => exact xC (Kd.C_below HR1.out HB.out)); (case side2 => exact HC1.out); rintro e w9 ⟨rfl, hb⟩; have n0_ := Aside0.mk (blk_below (g := gb1) (o := .cells #[.int .i64 a0_0, .bool a0_1] 46 (0, 0)) (by (with_reducible repeat (first | refine blk_drewN ?_ _ | refine blk_drew ?_ | refine blk_alloc ?_ _)); exact BK.out) hb); have n1_ := Aside0.mk (below_step (xB HB.out) hb); clear BK HB; have BK := n0_; have HB := n1_; clear n0_ n1_ hb) | (go_at_call 369; (with_reducible refine (impl_inWord_cf.calls k _ _ l2 a0_0 a0_1 t5 _ gb1 ?sq0 ?side1 ?side2 A5.out).mono ?_); (case sq0 => (with_reducible repeat (first | refine blk_drewN ?_ _ | refine blk_drew ?_ | refine blk_alloc ?_ _)); exact BK.out); (case side1 => exact xC (Kd.C_below HR2.out HB.out)); (case side2 => exact HC2.out); rintro e w9 ⟨rfl, hb⟩; have n0_ := Aside0.mk (blk_below (g := gb1) (o := .cells #[.int .i64 a0_0, .bool a0_1] 46 (0, 0)) (by (with_reducible repeat (first | refine blk_drewN ?_ _ | refine blk_drew ?_ | refine blk_alloc ?_ _)); exact BK.out) hb); have n1_ := Aside0.mk (below_step (xB HB.out) hb); clear BK HB; have BK := n0_; have HB := n1_; clear n0_ n1_ hb))
 go_ret
 exact ⟨by first | rfl | (simp; done) | (simp [*]; done), xB HB.out⟩

/-! ### impl_mod: function 377 -/
def impl_mod.f (a0 : Int) (a1 : Int) : Option (Int) := if a1 = 0 then (none) else (some (Int.tmod (wrap64 ((Int.tmod a0 a1) + a1)) a1))
set_option maxHeartbeats 8000000 in
set_option maxRecDepth 100000 in
theorem impl_mod.calls (a0 : Int) (a1 : Int) (r : Int) (w : World) (h : impl_mod.f a0 a1 = some r) :
  Calls Try.prog 377 #[.int .i64 a0, .int .i64 a1] w fun e w' => e = .returned (.int .i64 r) ∧ Drawn0 w w' := by
 have H : (if a1 = 0 then (none) else (some (Int.tmod (wrap64 ((Int.tmod a0 a1) + a1)) a1))) = some r := h
 clear h
 by_cases c3 : a1 = 0
 ·rw [if_pos c3] at H
  exact absurd H (by simp)
 rw [if_neg c3] at H
 have c3b0 : (a1 == 0) = false := beq_eq_false_iff_ne.mpr c3
 have c3b1 : (a1 != 0) = true := bne_iff_ne.mpr c3
 obtain rfl := Option.some.inj H
 go_enter Try.func377, Try.ntmps377
 go_wp2
 go_ret
 exact ⟨by first | rfl | (simp; done) | (simp [*]; done), by repeat (first | exact Drawn0.refl _ | apply Drawn0.step)⟩

end Go.Proofs.Ytjplcongellcmaa.PFnFiltersInWords
