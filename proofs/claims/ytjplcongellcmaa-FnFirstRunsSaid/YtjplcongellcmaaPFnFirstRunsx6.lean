/- What each Go function that the statement FnFirstRuns reaches answers, proved call by call. No condition beyond those that the theorems print. (Written by wip/tools/xprint.py of this repo, over the kit's print.) -/
import Derived.Test.YtjplcongellcmaaPFnFirstRunsx0
import Derived.Test.YtjplcongellcmaaPFnFirstRunsx4
namespace Go.Proofs.Ytjplcongellcmaa.PFnFirstRuns
open Go.RowKit Go.Proofs.YtjplcongellcmaaW.PrintWords Go.Proofs.YtjplcongellcmaaW.PrintLast Go.Proofs.YtjplcongellcmaaW.PrintMore
attribute [local go_sem] max2_int min2_int max_two min_two max_three min_three max_four min_four   -- for this text's walks alone
set_option linter.unusedVariables false
set_option linter.unusedSimpArgs false
def x6a0 : Array Bool := #[Zz,Zz,Zz,Zz,Zz,Zz,Zz,Zz,Zz,Zz,Zz]
def x6a1 : Array Bool := #[Yy,Zz,Zz,Zz,Zz,Zz,Zz,Zz,Zz,Zz,Zz]
def x6a2 : Array Bool := #[Yy,Yy,Zz,Zz,Zz,Zz,Zz,Zz,Zz,Zz,Zz]
def x6a3 : Array Bool := #[Yy,Yy,Yy,Zz,Zz,Zz,Zz,Zz,Zz,Zz,Zz]
def x6a4 : Array Bool := #[Yy,Yy,Yy,Yy,Zz,Zz,Zz,Zz,Zz,Zz,Zz]
def x6a5 : Array Bool := #[Yy,Yy,Yy,Yy,Yy,Zz,Zz,Zz,Zz,Zz,Zz]
def x6a6 : Array Bool := #[Yy,Yy,Yy,Yy,Yy,Yy,Zz,Zz,Zz,Zz,Zz]
def x6a7 : Array Bool := #[Yy,Yy,Yy,Yy,Yy,Yy,Yy,Zz,Zz,Zz,Zz]
def x6a8 : Array Bool := #[Yy,Yy,Yy,Yy,Yy,Yy,Yy,Yy,Zz,Zz,Zz]
def x6a9 : Array Bool := #[Yy,Yy,Yy,Yy,Yy,Yy,Yy,Yy,Yy,Zz,Zz]
def x6a10 : Array Bool := #[Yy,Yy,Yy,Yy,Yy,Yy,Yy,Yy,Yy,Yy,Zz]
def x6a11 : Array Bool := #[Yy,Yy,Yy,Yy,Yy,Yy,Yy,Yy,Yy,Yy,Yy]
def x6a12 : Array Bool := #[Yy,Yy,Yy,Yy,Yy,Zz,Yy,Zz,Zz,Zz,Zz]

/-! ### spec_l1All: function 373 -/
def spec_l1All.l0 : Nat → Int → Int → List Int → Int → Int → Option (Bool)
 | 0, _, _, _, _, _ => none
 | k + 1, x1, x2, x9, x10, x11 => if x11 < x10 then (if 0 ≤ x11 then (if x11 < (x9.length : Int) then ((spec_l1In.f (rd x9 x11) x1 x2).bind fun t325 => (if t325 = true then (spec_l1All.l0 k x1 x2 x9 x10 (wrap64 (x11 + 1))) else (some false))) else (none)) else (none)) else (some true)
def spec_l1All.f (k : Nat) (l0 : List Int) (a1 : Int) (a2 : Int) : Option (Bool) := spec_l1All.l0 k a1 a2 l0 (l0.length : Int) 0
theorem spec_l1All.mono_l : ∀ k, (∀ y0 y1 y2 y3 y4, LeO (spec_l1All.l0 k y0 y1 y2 y3 y4) (spec_l1All.l0 (k + 1) y0 y1 y2 y3 y4))
 | 0 => fun _ _ _ _ _ r h => by simp [spec_l1All.l0] at h
 | k + 1 => by
  have ih0 := spec_l1All.mono_l k
  intros
  unfold spec_l1All.l0
  exact xM
theorem spec_l1All.mono : ∀ a0 a1 a2 k, LeO (spec_l1All.f k a0 a1 a2) (spec_l1All.f (k + 1) a0 a1 a2) := by
 intro a0 a1 a2 k
 have ih0 := spec_l1All.mono_l k
 unfold spec_l1All.f
 exact xM
set_option maxHeartbeats 200000000 in
set_option maxRecDepth 100000 in
theorem spec_l1All.calls (k : Nat) (A0 : Option Addr) (c0 : Nat) (l0 : List Int) (a1 : Int) (a2 : Int) (r : Bool) (w : World) (hr0 : Kd.C (Kd.int .i64) w A0 l0.length l0) (hc0 : l0.length ≤ c0) (h : spec_l1All.f k l0 a1 a2 = some r) :
  Calls Try.prog 373 #[.slice A0 l0.length c0, .int .i64 a1, .int .i64 a2] w fun e w' => e = .returned (.bool r) ∧ Drawn0 w w' := by
 have HR0 := xA hr0
 have HC0 := xA hc0
 clear hr0 hc0
 have H : (spec_l1All.l0 k a1 a2 l0 (l0.length : Int) 0) = some r := h
 clear h
 have H' := xA H
 clear H
 go_enter Try.func373, Try.ntmps373
 go_wp2
 go_loopg [11] k (fun kq v11 w' => ∃ (x11_1 : Int), v11 = .int .i64 x11_1 ∧ Aside0 (spec_l1All.l0 kq a1 a2 l0 (l0.length : Int) x11_1 = some r) ∧ Aside0 (kq ≤ k) ∧ Drawn0 w w')
 case atStart => exact ⟨(0), xs, H', ⟨Nat.le_refl _⟩, by repeat (first | exact Drawn0.refl _ | apply Drawn0.step)⟩
 case round =>
  clear H'
  obtain ⟨x11_1, rfl, HA, HK1, ⟨m1, rfl⟩⟩ := hrel
  cases gk with
  | zero => exact absurd HA.out (by simp [spec_l1All.l0])
  | succ k1 =>
   have H := HA.out
   clear HA
   simp only [spec_l1All.l0] at H
   by_cases c4 : x11_1 < (l0.length : Int)
   rotate_left
   ·rw [if_neg c4] at H
    have c4b0 : decide (x11_1 < (l0.length : Int)) = false := decide_eq_false c4
    clear c4
    obtain rfl := Option.some.inj H
    go_wp2
    go_ret
    exact ⟨by first | rfl | (simp; done) | (simp [*]; done), by repeat (first | exact Drawn0.refl _ | apply Drawn0.step)⟩

   rw [if_pos c4] at H
   have c4b0 : decide (x11_1 < (l0.length : Int)) = true := decide_eq_true c4
   clear c4
   by_cases c5 : 0 ≤ x11_1
   rotate_left
   ·rw [if_neg c5] at H
    exact absurd H (by simp)
   rw [if_pos c5] at H
   have c5b0 : decide (0 ≤ x11_1) = true := decide_eq_true c5
   clear c5
   by_cases c6 : x11_1 < (l0.length : Int)
   rotate_left
   ·rw [if_neg c6] at H
    exact absurd H (by simp)
   rw [if_pos c6] at H
   have c6b0 : decide (x11_1 < (l0.length : Int)) = true := decide_eq_true c6
   clear c6
   obtain ⟨t325, A7, H⟩ := xO H
   (try dsimp only at H)
   by_cases c8 : t325 = true
   rotate_left
   ·replace c8 := Bool.eq_false_iff.mpr c8
    subst c8
    rw [if_neg (show ¬ (false = true) by decide)] at H
    obtain rfl := Option.some.inj H
    have p324 : 0 ≤ (x11_1 : Int) := of_decide_eq_true (by first | (with_reducible assumption) | assumption)
    have q324 : x11_1 < (l0.length : Int) := of_decide_eq_true (by first | (with_reducible assumption) | assumption)
    obtain ⟨ad324, e324, hx324_0⟩ := Kd.at_int HR0.out x11_1 p324 q324
    cases e324
    replace p324 := eq_true p324
    replace q324 := eq_true q324
    go_wp2_with (first | (refine xG (some 18) Try.func230 #[.int .i64 (rd l0 x11_1), .int .i64 a1, .int .i64 a2] ?_; (with_reducible refine (spec_l1In.calls (rd l0 x11_1) a1 a2 false _ A7.out).mono ?_); rintro e w' ⟨rfl, ⟨nd, rfl⟩⟩; refine ⟨_, rfl, ?_⟩))
    go_ret
    exact ⟨by first | rfl | (simp; done) | (simp [*]; done), by repeat (first | exact Drawn0.refl _ | apply Drawn0.step)⟩
   subst c8
   rw [if_pos rfl] at H
   have H' := xA H
   clear H
   have p324 : 0 ≤ (x11_1 : Int) := of_decide_eq_true (by first | (with_reducible assumption) | assumption)
   have q324 : x11_1 < (l0.length : Int) := of_decide_eq_true (by first | (with_reducible assumption) | assumption)
   obtain ⟨ad324, e324, hx324_0⟩ := Kd.at_int HR0.out x11_1 p324 q324
   cases e324
   replace p324 := eq_true p324
   replace q324 := eq_true q324
   go_wp2_with (first | (refine xG (some 18) Try.func230 #[.int .i64 (rd l0 x11_1), .int .i64 a1, .int .i64 a2] ?_; (with_reducible refine (spec_l1In.calls (rd l0 x11_1) a1 a2 true _ A7.out).mono ?_); rintro e w' ⟨rfl, ⟨nd, rfl⟩⟩; refine ⟨_, rfl, ?_⟩))
   go_roundg k1
   case measure => have := HK1.out; omega
   case rel => exact ⟨(wrap64 (x11_1 + 1)), xs, H', ⟨by have := HK1.out; omega⟩, by repeat (first | exact Drawn0.refl _ | apply Drawn0.step)⟩
/-! ### spec_wdSignal: function 236 -/
def spec_wdSignal.f (k : Nat) (l0 : List Int) : Option (Bool) := if (l0.length : Int) ≤ 64 then ((spec_l1All.f k l0 (-100000) 100000).bind fun t326 => (some t326)) else (some false)
theorem spec_wdSignal.mono : ∀ a0 k, LeO (spec_wdSignal.f k a0) (spec_wdSignal.f (k + 1) a0) := by
 intro a0 k
 have m0 := @spec_l1All.mono
 unfold spec_wdSignal.f
 exact xM
set_option maxHeartbeats 200000000 in
set_option maxRecDepth 100000 in
theorem spec_wdSignal.calls (k : Nat) (A0 : Option Addr) (c0 : Nat) (l0 : List Int) (r : Bool) (w : World) (hr0 : Kd.C (Kd.int .i64) w A0 l0.length l0) (hc0 : l0.length ≤ c0) (h : spec_wdSignal.f k l0 = some r) :
  Calls Try.prog 236 #[.slice A0 l0.length c0] w fun e w' => e = .returned (.bool r) ∧ Drawn0 w w' := by
 have HR0 := xA hr0
 have HC0 := xA hc0
 clear hr0 hc0
 have H : (if (l0.length : Int) ≤ 64 then ((spec_l1All.f k l0 (-100000) 100000).bind fun t326 => (some t326)) else (some false)) = some r := h
 clear h
 by_cases c2 : (l0.length : Int) ≤ 64
 rotate_left
 ·rw [if_neg c2] at H
  have c2b0 : decide ((l0.length : Int) ≤ 64) = false := decide_eq_false c2
  have c2b1 : decide (l0.length ≤ 64) = false := decide_eq_false (by omega)
  clear c2
  obtain rfl := Option.some.inj H
  go_enter Try.func236, Try.ntmps236
  go_wp2
  go_ret
  exact ⟨by first | rfl | (simp; done) | (simp [*]; done), by repeat (first | exact Drawn0.refl _ | apply Drawn0.step)⟩

 rw [if_pos c2] at H
 have c2b0 : decide ((l0.length : Int) ≤ 64) = true := decide_eq_true c2
 have c2b1 : decide (l0.length ≤ 64) = true := decide_eq_true (by omega)
 clear c2
 obtain ⟨t326, A3, H⟩ := xO H
 (try dsimp only at H)
 obtain rfl := Option.some.inj H
 go_enter Try.func236, Try.ntmps236
 go_wp2_with (first | (go_at_call 373; (with_reducible refine (spec_l1All.calls k _ _ l0 (-100000) 100000 t326 _ ?side1 ?side2 A3.out).mono ?_); (case side1 => exact xC HR0.out); (case side2 => exact HC0.out); rintro e w' ⟨rfl, ⟨nd, rfl⟩⟩))
 go_ret
 exact ⟨by first | rfl | (simp; done) | (simp [*]; done), by repeat (first | exact Drawn0.refl _ | apply Drawn0.step)⟩
/-! ### spec_wdMode: function 366 -/
def spec_wdMode.f (a0 : Int) (a1 : Int) : Option (Bool) := (spec_l1In.f a0 0 20).bind fun t327 => (if t327 = true then ((spec_l1In.f a1 0 2).bind fun t328 => (some t328)) else (some false))
set_option maxHeartbeats 200000000 in
set_option maxRecDepth 100000 in
theorem spec_wdMode.calls (a0 : Int) (a1 : Int) (r : Bool) (w : World) (h : spec_wdMode.f a0 a1 = some r) :
  Calls Try.prog 366 #[.int .i64 a0, .int .i64 a1] w fun e w' => e = .returned (.bool r) ∧ Drawn0 w w' := by
 have H : ((spec_l1In.f a0 0 20).bind fun t327 => (if t327 = true then ((spec_l1In.f a1 0 2).bind fun t328 => (some t328)) else (some false))) = some r := h
 clear h
 obtain ⟨t327, A3, H⟩ := xO H
 (try dsimp only at H)
 by_cases c4 : t327 = true
 rotate_left
 ·replace c4 := Bool.eq_false_iff.mpr c4
  subst c4
  rw [if_neg (show ¬ (false = true) by decide)] at H
  obtain rfl := Option.some.inj H
  go_enter Try.func366, Try.ntmps366
  go_wp2_with (first | (refine xG (some 6) Try.func230 #[.int .i64 a0, .int .i64 0, .int .i64 20] ?_; (with_reducible refine (spec_l1In.calls a0 0 20 false _ A3.out).mono ?_); rintro e w' ⟨rfl, ⟨nd, rfl⟩⟩; refine ⟨_, rfl, ?_⟩))
  go_ret
  exact ⟨by first | rfl | (simp; done) | (simp [*]; done), by repeat (first | exact Drawn0.refl _ | apply Drawn0.step)⟩

 subst c4
 rw [if_pos rfl] at H
 obtain ⟨t328, A5, H⟩ := xO H
 (try dsimp only at H)
 obtain rfl := Option.some.inj H
 go_enter Try.func366, Try.ntmps366
 go_wp2_with (first | (refine xG (some 6) Try.func230 #[.int .i64 a0, .int .i64 0, .int .i64 20] ?_; (with_reducible refine (spec_l1In.calls a0 0 20 true _ A3.out).mono ?_); rintro e w' ⟨rfl, ⟨nd, rfl⟩⟩; refine ⟨_, rfl, ?_⟩) | (go_at_call 230; (with_reducible refine (spec_l1In.calls a1 0 2 t328 _ A5.out).mono ?_); rintro e w' ⟨rfl, ⟨nd, rfl⟩⟩))
 go_ret
 exact ⟨by first | rfl | (simp; done) | (simp [*]; done), by repeat (first | exact Drawn0.refl _ | apply Drawn0.step)⟩
/-! ### spec_foGood: function 297 -/
def spec_foGood.f (a0_0 : Int) (a0_1 : Int) (a0_2 : Int) (a0_3 : Int) (a0_4 : Bool) : Option (Bool) := (spec_l1In.f a0_0 (-1024) 1024).bind fun t330 => (if t330 = true then ((spec_l1In.f a0_1 0 10).bind fun t331 => (if t331 = true then ((spec_wdMode.f a0_1 a0_2).bind fun t332 => (if t332 = true then ((spec_wdGood.f a0_3 a0_4).bind fun t333 => (some t333)) else (some false))) else (some false))) else (some false))
set_option maxHeartbeats 200000000 in
set_option maxRecDepth 100000 in
theorem spec_foGood.calls (a0_0 : Int) (a0_1 : Int) (a0_2 : Int) (a0_3 : Int) (a0_4 : Bool) (r : Bool) (w : World) (h : spec_foGood.f a0_0 a0_1 a0_2 a0_3 a0_4 = some r) :
  Calls Try.prog 297 #[.agg #[.int .i64 a0_0, .int .i64 a0_1, .int .i64 a0_2, .int .i64 a0_3, .bool a0_4]] w fun e w' => e = .returned (.bool r) ∧ Below w.heap.size w w' := by
 have hu62 := Try.underlying62
 have hu46 := Try.underlying46
 have HB := xA (Below.refl w.heap.size w)
 have H : ((spec_l1In.f a0_0 (-1024) 1024).bind fun t330 => (if t330 = true then ((spec_l1In.f a0_1 0 10).bind fun t331 => (if t331 = true then ((spec_wdMode.f a0_1 a0_2).bind fun t332 => (if t332 = true then ((spec_wdGood.f a0_3 a0_4).bind fun t333 => (some t333)) else (some false))) else (some false))) else (some false))) = some r := h
 clear h
 obtain ⟨t330, A2, H⟩ := xO H
 (try dsimp only at H)
 by_cases c3 : t330 = true
 rotate_left
 ·replace c3 := Bool.eq_false_iff.mpr c3
  subst c3
  rw [if_neg (show ¬ (false = true) by decide)] at H
  obtain rfl := Option.some.inj H
  go_enter Try.func297, Try.ntmps297
  go_wp2_with (first | (refine xg 1 rfl ?_; refine xV 1 #[.int .i64 a0_0, .int .i64 a0_1, .int .i64 a0_2, .int .i64 a0_3, .bool a0_4] 62 ?_; intro gb329 hg w16 hbox hb; have BK329 := xA (hbox); have GW329 := xgw hg (below_size (xB HB.out)); have GE329 := GW329; replace HB := xA (below_step (xB HB.out) hb); clear hb hbox hg; obtain ⟨hcz17_0, hcz17_1, hcz17_2, hcz17_3, hcz17_4, hfz17_0, hfz17_1, hfz17_2, hfz17_3, hfz17_4⟩ := xZ5 BK329.out) | (refine xG (some 5) Try.func230 #[.int .i64 a0_0, .int .i64 (-1024), .int .i64 1024] ?_; (with_reducible refine (spec_l1In.calls a0_0 (-1024) 1024 false _ A2.out).mono ?_); rintro e w' ⟨rfl, ⟨nd, rfl⟩⟩; refine ⟨_, rfl, ?_⟩))
  go_ret
  exact ⟨xr, xB1 GE329.out HB.out⟩

 subst c3
 rw [if_pos rfl] at H
 obtain ⟨t331, A4, H⟩ := xO H
 (try dsimp only at H)
 by_cases c5 : t331 = true
 rotate_left
 ·replace c5 := Bool.eq_false_iff.mpr c5
  subst c5
  rw [if_neg (show ¬ (false = true) by decide)] at H
  obtain rfl := Option.some.inj H
  go_enter Try.func297, Try.ntmps297
  go_wp2_with (first | (refine xg 1 rfl ?_; refine xV 1 #[.int .i64 a0_0, .int .i64 a0_1, .int .i64 a0_2, .int .i64 a0_3, .bool a0_4] 62 ?_; intro gb329 hg w14 hbox hb; have BK329 := xA (hbox); have GW329 := xgw hg (below_size (xB HB.out)); have GE329 := GW329; replace HB := xA (below_step (xB HB.out) hb); clear hb hbox hg; obtain ⟨hcz15_0, hcz15_1, hcz15_2, hcz15_3, hcz15_4, hfz15_0, hfz15_1, hfz15_2, hfz15_3, hfz15_4⟩ := xZ5 BK329.out) | (refine xG (some 5) Try.func230 #[.int .i64 a0_0, .int .i64 (-1024), .int .i64 1024] ?_; (with_reducible refine (spec_l1In.calls a0_0 (-1024) 1024 true _ A2.out).mono ?_); rintro e w' ⟨rfl, ⟨nd, rfl⟩⟩; refine ⟨_, rfl, ?_⟩) | (go_at_call 230; (with_reducible refine (spec_l1In.calls a0_1 0 10 false _ A4.out).mono ?_); rintro e w' ⟨rfl, ⟨nd, rfl⟩⟩))
  go_ret
  exact ⟨xr, xB1 GE329.out HB.out⟩
 subst c5
 rw [if_pos rfl] at H
 obtain ⟨t332, A6, H⟩ := xO H
 (try dsimp only at H)
 by_cases c7 : t332 = true
 rotate_left
 ·replace c7 := Bool.eq_false_iff.mpr c7
  subst c7
  rw [if_neg (show ¬ (false = true) by decide)] at H
  obtain rfl := Option.some.inj H
  go_enter Try.func297, Try.ntmps297
  go_wp2_with (first | (refine xg 1 rfl ?_; refine xV 1 #[.int .i64 a0_0, .int .i64 a0_1, .int .i64 a0_2, .int .i64 a0_3, .bool a0_4] 62 ?_; intro gb329 hg w12 hbox hb; have BK329 := xA (hbox); have GW329 := xgw hg (below_size (xB HB.out)); have GE329 := GW329; replace HB := xA (below_step (xB HB.out) hb); clear hb hbox hg; replace hz329 := blk_cell BK329.out; replace hy329 := blk_frozen BK329.out) | (refine xG (some 5) Try.func230 #[.int .i64 a0_0, .int .i64 (-1024), .int .i64 1024] ?_; (with_reducible refine (spec_l1In.calls a0_0 (-1024) 1024 true _ A2.out).mono ?_); rintro e w' ⟨rfl, ⟨nd, rfl⟩⟩; refine ⟨_, rfl, ?_⟩) | (go_at_call 230; (with_reducible refine (spec_l1In.calls a0_1 0 10 true _ A4.out).mono ?_); rintro e w' ⟨rfl, ⟨nd, rfl⟩⟩) | (go_at_call 366; (with_reducible refine (spec_wdMode.calls a0_1 a0_2 false _ A6.out).mono ?_); rintro e w' ⟨rfl, ⟨nd, rfl⟩⟩))
  go_ret
  exact ⟨xr, xB1 GE329.out HB.out⟩
 subst c7
 rw [if_pos rfl] at H
 obtain ⟨t333, A8, H⟩ := xO H
 (try dsimp only at H)
 obtain rfl := Option.some.inj H
 go_enter Try.func297, Try.ntmps297
 go_wp2_with (first | (refine xg 1 rfl ?_; refine xV 1 #[.int .i64 a0_0, .int .i64 a0_1, .int .i64 a0_2, .int .i64 a0_3, .bool a0_4] 62 ?_; intro gb329 hg w9 hbox hb; have BK329 := xA (hbox); have GW329 := xgw hg (below_size (xB HB.out)); have GE329 := GW329; replace HB := xA (below_step (xB HB.out) hb); clear hb hbox hg; obtain ⟨hcz10_0, hcz10_1, hcz10_2, hcz10_3, hcz10_4, hfz10_0, hfz10_1, hfz10_2, hfz10_3, hfz10_4⟩ := xZ5 BK329.out) | (refine xG (some 5) Try.func230 #[.int .i64 a0_0, .int .i64 (-1024), .int .i64 1024] ?_; (with_reducible refine (spec_l1In.calls a0_0 (-1024) 1024 true _ A2.out).mono ?_); rintro e w' ⟨rfl, ⟨nd, rfl⟩⟩; refine ⟨_, rfl, ?_⟩) | (go_at_call 230; (with_reducible refine (spec_l1In.calls a0_1 0 10 true _ A4.out).mono ?_); rintro e w' ⟨rfl, ⟨nd, rfl⟩⟩) | (go_at_call 366; (with_reducible refine (spec_wdMode.calls a0_1 a0_2 true _ A6.out).mono ?_); rintro e w' ⟨rfl, ⟨nd, rfl⟩⟩) | (go_at_call 267; (with_reducible refine (spec_wdGood.calls a0_3 a0_4 t333 _ A8.out).mono ?_); rintro e w11 ⟨rfl, hb⟩; replace BK329 := xkb BK329 hb; replace HB := xA (below_step (xB1 GE329.out HB.out) hb); (try clear hb)))
 go_ret
 exact ⟨xr, xB1 GE329.out HB.out⟩
/-! ### spec_wdIn: function 314 -/
def spec_wdIn.f (a0_0 : Int) (a0_1 : Bool) (a1 : Int) : Option (Bool) := (spec_wdGood.f a0_0 a0_1).bind fun t335 => (if t335 = true then ((spec_wdLow.f a0_0 a0_1).bind fun t336 => ((spec_wdHigh.f a0_0 a0_1).bind fun t337 => ((spec_l1In.f a1 t336 t337).bind fun t338 => (some t338)))) else (some false))
def spec_wdIn.T1 : Bool × List (List Nat × List Nat) := (true, [([], []), ([0], [0]), ([1, 1], [1]), ([2], [2]), ([2], [2]), ([4, 2, 2], [2, 4]), ([2], [2]), ([6, 5, 2], [2, 6]), ([3, 5, 7, 7, 2], [2, 3, 5, 7]), ([2, 8], [2, 8]), ([9, 8, 0, 1, 2, 3, 4, 5, 6, 7, 8, 9], [9])])
def spec_wdIn.B1 : List Nat := [0, 1, 3, 7, 7, 23, 7, 119, 255, 511, 1023]
theorem spec_wdIn.tab1 : rtab .any (opsOf Try.f314 1) = spec_wdIn.T1 := by kernel_rfl
theorem spec_wdIn.bits1 : waitsOk spec_wdIn.T1.2 spec_wdIn.B1 = true := by kernel_rfl
set_option maxHeartbeats 200000000 in
set_option maxRecDepth 100000 in
theorem spec_wdIn.calls (a0_0 : Int) (a0_1 : Bool) (a1 : Int) (r : Bool) (w : World) (h : spec_wdIn.f a0_0 a0_1 a1 = some r) :
  Calls Try.prog 314 #[.agg #[.int .i64 a0_0, .bool a0_1], .int .i64 a1] w fun e w' => e = .returned (.bool r) ∧ Below w.heap.size w w' := by
 have hu46 := Try.underlying46
 have HB := xA (Below.refl w.heap.size w)
 have H : ((spec_wdGood.f a0_0 a0_1).bind fun t335 => (if t335 = true then ((spec_wdLow.f a0_0 a0_1).bind fun t336 => ((spec_wdHigh.f a0_0 a0_1).bind fun t337 => ((spec_l1In.f a1 t336 t337).bind fun t338 => (some t338)))) else (some false))) = some r := h
 clear h
 obtain ⟨t335, A3, H⟩ := xO H
 (try dsimp only at H)
 by_cases c4 : t335 = true
 rotate_left
 ·replace c4 := Bool.eq_false_iff.mpr c4
  subst c4
  rw [if_neg (show ¬ (false = true) by decide)] at H
  obtain rfl := Option.some.inj H
  go_enter Try.func314, Try.ntmps314
  try go_wp2_with (first | (refine xg 2 rfl ?_; refine xV 2 #[.int .i64 a0_0, .bool a0_1] 46 ?_; intro gb334 hg w13 hbox hb; have BK334 := xA (hbox); have GW334 := xgw hg (below_size (xB HB.out)); have GE334 := GW334; replace HB := xA (below_step (xB HB.out) hb); clear hb hbox hg))
  replace BK334 := xA (blk_drew BK334.out)
  replace HB := xA (below_drew1 HB.out)
  refine start_ (n := 11) (S := fun w' => w'.cell? ⟨gb334, 0, none⟩ = some (.int .i64 a0_0) ∧ w'.cell? ⟨gb334, 1, none⟩ = some (.bool a0_1)) (ds := []) x6a0 (by kernel_rfl) rfl rfl ⟨(blk_cell BK334.out 0).trans rfl, (blk_cell BK334.out 1).trans rfl⟩ (fun hHeld => ?_); refine with_tabW spec_wdIn.tab1 spec_wdIn.bits1 (fun HT_ HW_ => ?_)
  generalize w13.drew = w14 at BK334 HB hHeld ⊢
  refine xT2 hHeld 0 5 x6a1 ?_
  refine xU 1 6 x6a2 (fun K hK => ?_)
  refine xY Try.func267 #[.agg #[.int .i64 a0_0, .bool a0_1]] ?_
  with_reducible refine (spec_wdGood.calls a0_0 a0_1 false _ A3.out).mono ?_
  rintro e w15 ⟨rfl, hb⟩
  refine ⟨_, rfl, ?_⟩
  replace BK334 := xkb BK334 hb
  replace HB := xA (below_step (xB1 GE334.out HB.out) hb)
  (try clear hb); (try clear hb2); (try clear hk); (try clear hi)
  refine hK.out _ _ ⟨(blk_cell BK334.out 0).trans rfl, (blk_cell BK334.out 1).trans rfl⟩ (fun hHeld => ?_)
  clear hK K
  refine xN ?_
  refine xP 2 7 x6a3 ?_
  refine pure_ (i := 3) (N := some 8) (v := undef) (a' := ?_) x6a4 rfl rfl (any_of HT_.out (by kernel_rfl)) (fun _ _ _ h => h) (Or.inr ⟨by rfl, rfl⟩) ?_ ?_
  rotate_left
  ·exact xE
  refine pure_ (i := 4) (N := some 9) (v := undef) (a' := ?_) x6a5 rfl rfl (any_of HT_.out (by kernel_rfl)) (fun _ _ _ h => h) (Or.inr ⟨by rfl, rfl⟩) ?_ ?_
  rotate_left
  ·exact xE
  refine pure_ (i := 5) (N := some 10) (v := undef) (a' := ?_) x6a6 rfl rfl (any_of HT_.out (by kernel_rfl)) (fun _ _ _ h => h) (Or.inr ⟨by rfl, rfl⟩) ?_ ?_
  rotate_left
  ·exact xE
  refine pure_ (i := 6) (N := some 11) (v := undef) (a' := ?_) x6a7 rfl rfl (any_of HT_.out (by kernel_rfl)) (fun _ _ _ h => h) (Or.inr ⟨by rfl, rfl⟩) ?_ ?_
  rotate_left
  ·exact xE
  refine pure_ (i := 7) (N := some 12) (v := undef) (a' := ?_) x6a8 rfl rfl (any_of HT_.out (by kernel_rfl)) (fun _ _ _ h => h) (Or.inr ⟨by rfl, rfl⟩) ?_ ?_
  rotate_left
  ·exact xE
  refine pure_ (i := 8) (N := some 13) (v := undef) (a' := ?_) x6a9 rfl rfl (any_of HT_.out (by kernel_rfl)) (fun _ _ _ h => h) (Or.inr ⟨by rfl, rfl⟩) ?_ ?_
  rotate_left
  ·exact xE
  refine xP 9 14 x6a10 ?_
  refine xP 10 4 x6a11 ?_
  refine xDn ?_
  try go_wp2
  go_ret
  exact ⟨xr, xB1 GE334.out HB.out⟩

 subst c4
 rw [if_pos rfl] at H
 obtain ⟨t336, A5, H⟩ := xO H
 (try dsimp only at H)
 obtain ⟨t337, A6, H⟩ := xO H
 (try dsimp only at H)
 obtain ⟨t338, A7, H⟩ := xO H
 (try dsimp only at H)
 obtain rfl := Option.some.inj H
 go_enter Try.func314, Try.ntmps314
 try go_wp2_with (first | (refine xg 2 rfl ?_; refine xV 2 #[.int .i64 a0_0, .bool a0_1] 46 ?_; intro gb334 hg w8 hbox hb; have BK334 := xA (hbox); have GW334 := xgw hg (below_size (xB HB.out)); have GE334 := GW334; replace HB := xA (below_step (xB HB.out) hb); clear hb hbox hg))
 replace BK334 := xA (blk_drew BK334.out)
 replace HB := xA (below_drew1 HB.out)
 refine start_ (n := 11) (S := fun w' => w'.cell? ⟨gb334, 0, none⟩ = some (.int .i64 a0_0) ∧ w'.cell? ⟨gb334, 1, none⟩ = some (.bool a0_1)) (ds := []) x6a0 (by kernel_rfl) rfl rfl ⟨(blk_cell BK334.out 0).trans rfl, (blk_cell BK334.out 1).trans rfl⟩ (fun hHeld => ?_); refine with_tabW spec_wdIn.tab1 spec_wdIn.bits1 (fun HT_ HW_ => ?_)
 generalize w8.drew = w9 at BK334 HB hHeld ⊢
 refine xT2 hHeld 0 5 x6a1 ?_
 refine xU 1 6 x6a2 (fun K hK => ?_)
 refine xY Try.func267 #[.agg #[.int .i64 a0_0, .bool a0_1]] ?_
 with_reducible refine (spec_wdGood.calls a0_0 a0_1 true _ A3.out).mono ?_
 rintro e w10 ⟨rfl, hb⟩
 refine ⟨_, rfl, ?_⟩
 replace BK334 := xkb BK334 hb
 replace HB := xA (below_step (xB1 GE334.out HB.out) hb)
 (try clear hb); (try clear hb2); (try clear hk); (try clear hi)
 refine hK.out _ _ ⟨(blk_cell BK334.out 0).trans rfl, (blk_cell BK334.out 1).trans rfl⟩ (fun hHeld => ?_)
 clear hK K
 refine xN ?_
 refine xP 2 7 x6a3 ?_
 refine xP 3 8 x6a4 ?_
 refine xT2 hHeld 4 9 x6a5 ?_
 refine xT2 hHeld 6 11 x6a12 ?_
 refine xU 5 10 x6a7 (fun K hK => ?_)
 refine xY Try.func268 #[.agg #[.int .i64 a0_0, .bool a0_1]] ?_
 with_reducible refine (spec_wdLow.calls a0_0 a0_1 t336 _ A5.out).mono ?_
 rintro e w11 ⟨rfl, hb⟩
 refine ⟨_, rfl, ?_⟩
 replace BK334 := xkb BK334 hb
 replace HB := xA (below_step (xB1 GE334.out HB.out) hb)
 (try clear hb); (try clear hb2); (try clear hk); (try clear hi)
 refine hK.out _ _ ⟨(blk_cell BK334.out 0).trans rfl, (blk_cell BK334.out 1).trans rfl⟩ (fun hHeld => ?_)
 clear hK K
 refine xN ?_
 refine xU 7 12 x6a8 (fun K hK => ?_)
 refine xY Try.func269 #[.agg #[.int .i64 a0_0, .bool a0_1]] ?_
 with_reducible refine (spec_wdHigh.calls a0_0 a0_1 t337 _ A6.out).mono ?_
 rintro e w12 ⟨rfl, hb⟩
 refine ⟨_, rfl, ?_⟩
 replace BK334 := xkb BK334 hb
 replace HB := xA (below_step (xB1 GE334.out HB.out) hb)
 (try clear hb); (try clear hb2); (try clear hk); (try clear hi)
 refine hK.out _ _ ⟨(blk_cell BK334.out 0).trans rfl, (blk_cell BK334.out 1).trans rfl⟩ (fun hHeld => ?_)
 clear hK K
 refine xN ?_
 refine xU 8 13 x6a9 (fun K hK => ?_)
 refine xY Try.func230 #[.int .i64 a1, .int .i64 t336, .int .i64 t337] ?_
 with_reducible refine (spec_l1In.calls a1 t336 t337 t338 _ A7.out).mono ?_
 rintro e w' ⟨rfl, ⟨nd, rfl⟩⟩
 refine ⟨_, rfl, ?_⟩
 refine hK.out _ _ ⟨(blk_cell BK334.out 0).trans rfl, (blk_cell BK334.out 1).trans rfl⟩ (fun hHeld => ?_)
 clear hK K
 refine xN ?_
 refine xP 9 14 x6a10 ?_
 refine xP 10 4 x6a11 ?_
 refine xDn ?_
 try go_wp2
 go_ret
 exact ⟨xr, xB1 GE334.out HB.out⟩
/-! ### spec_foAsked: function 285 -/
def spec_foAsked.f (a0_0 : Int) (a0_1 : Int) (a0_2 : Int) (a0_3 : Int) (a0_4 : Bool) (a1 : Int) (a2 : Int) : Option (Bool) := (spec_foGood.f a0_0 a0_1 a0_2 a0_3 a0_4).bind fun t340 => (if t340 = true then ((spec_wdIn.f a0_3 a0_4 a1).bind fun t341 => (if t341 = true then ((spec_l1In.f a2 (-100000) 100000).bind fun t342 => (some t342)) else (some false))) else (some false))
set_option maxHeartbeats 200000000 in
set_option maxRecDepth 100000 in
theorem spec_foAsked.calls (a0_0 : Int) (a0_1 : Int) (a0_2 : Int) (a0_3 : Int) (a0_4 : Bool) (a1 : Int) (a2 : Int) (r : Bool) (w : World) (h : spec_foAsked.f a0_0 a0_1 a0_2 a0_3 a0_4 a1 a2 = some r) :
  Calls Try.prog 285 #[.agg #[.int .i64 a0_0, .int .i64 a0_1, .int .i64 a0_2, .int .i64 a0_3, .bool a0_4], .int .i64 a1, .int .i64 a2] w fun e w' => e = .returned (.bool r) ∧ Below w.heap.size w w' := by
 have hu62 := Try.underlying62
 have hu46 := Try.underlying46
 have HB := xA (Below.refl w.heap.size w)
 have H : ((spec_foGood.f a0_0 a0_1 a0_2 a0_3 a0_4).bind fun t340 => (if t340 = true then ((spec_wdIn.f a0_3 a0_4 a1).bind fun t341 => (if t341 = true then ((spec_l1In.f a2 (-100000) 100000).bind fun t342 => (some t342)) else (some false))) else (some false))) = some r := h
 clear h
 obtain ⟨t340, A4, H⟩ := xO H
 (try dsimp only at H)
 by_cases c5 : t340 = true
 rotate_left
 ·replace c5 := Bool.eq_false_iff.mpr c5
  subst c5
  rw [if_neg (show ¬ (false = true) by decide)] at H
  obtain rfl := Option.some.inj H
  go_enter Try.func285, Try.ntmps285
  go_wp2_with (first | (refine xg 3 rfl ?_; refine xV 3 #[.int .i64 a0_0, .int .i64 a0_1, .int .i64 a0_2, .int .i64 a0_3, .bool a0_4] 62 ?_; intro gb339 hg w19 hbox hb; have BK339 := xA (hbox); have GW339 := xgw hg (below_size (xB HB.out)); have GE339 := GW339; replace HB := xA (below_step (xB HB.out) hb); clear hb hbox hg; replace hz339 := blk_cell BK339.out; replace hy339 := blk_frozen BK339.out) | (refine xG (some 8) Try.func297 #[.agg #[.int .i64 a0_0, .int .i64 a0_1, .int .i64 a0_2, .int .i64 a0_3, .bool a0_4]] ?_; (with_reducible refine (spec_foGood.calls a0_0 a0_1 a0_2 a0_3 a0_4 false _ A4.out).mono ?_); rintro e w21 ⟨rfl, hb⟩; refine ⟨_, rfl, ?_⟩; replace BK339 := xkb BK339 hb; replace HB := xA (below_step (xB1 GE339.out HB.out) hb); (try clear hb)))
  go_ret
  exact ⟨xr, xB1 GE339.out HB.out⟩

 subst c5
 rw [if_pos rfl] at H
 obtain ⟨t341, A6, H⟩ := xO H
 (try dsimp only at H)
 by_cases c7 : t341 = true
 rotate_left
 ·replace c7 := Bool.eq_false_iff.mpr c7
  subst c7
  rw [if_neg (show ¬ (false = true) by decide)] at H
  obtain rfl := Option.some.inj H
  go_enter Try.func285, Try.ntmps285
  go_wp2_with (first | (refine xg 3 rfl ?_; refine xV 3 #[.int .i64 a0_0, .int .i64 a0_1, .int .i64 a0_2, .int .i64 a0_3, .bool a0_4] 62 ?_; intro gb339 hg w14 hbox hb; have BK339 := xA (hbox); have GW339 := xgw hg (below_size (xB HB.out)); have GE339 := GW339; replace HB := xA (below_step (xB HB.out) hb); clear hb hbox hg; obtain ⟨hcz15_0, hcz15_1, hcz15_2, hcz15_3, hcz15_4, hfz15_0, hfz15_1, hfz15_2, hfz15_3, hfz15_4⟩ := xZ5 BK339.out) | (refine xG (some 8) Try.func297 #[.agg #[.int .i64 a0_0, .int .i64 a0_1, .int .i64 a0_2, .int .i64 a0_3, .bool a0_4]] ?_; (with_reducible refine (spec_foGood.calls a0_0 a0_1 a0_2 a0_3 a0_4 true _ A4.out).mono ?_); rintro e w16 ⟨rfl, hb⟩; refine ⟨_, rfl, ?_⟩; replace BK339 := xkb BK339 hb; replace HB := xA (below_step (xB1 GE339.out HB.out) hb); (try clear hb); obtain ⟨hcz17_0, hcz17_1, hcz17_2, hcz17_3, hcz17_4, hfz17_0, hfz17_1, hfz17_2, hfz17_3, hfz17_4⟩ := xZ5 BK339.out) | (go_at_call 314; (with_reducible refine (spec_wdIn.calls a0_3 a0_4 a1 false _ A6.out).mono ?_); rintro e w18 ⟨rfl, hb⟩; replace BK339 := xkb BK339 hb; replace HB := xA (below_step (xB1 GE339.out HB.out) hb); (try clear hb)))
  go_ret
  exact ⟨xr, xB1 GE339.out HB.out⟩
 subst c7
 rw [if_pos rfl] at H
 obtain ⟨t342, A8, H⟩ := xO H
 (try dsimp only at H)
 obtain rfl := Option.some.inj H
 go_enter Try.func285, Try.ntmps285
 go_wp2_with (first | (refine xg 3 rfl ?_; refine xV 3 #[.int .i64 a0_0, .int .i64 a0_1, .int .i64 a0_2, .int .i64 a0_3, .bool a0_4] 62 ?_; intro gb339 hg w9 hbox hb; have BK339 := xA (hbox); have GW339 := xgw hg (below_size (xB HB.out)); have GE339 := GW339; replace HB := xA (below_step (xB HB.out) hb); clear hb hbox hg; obtain ⟨hcz10_0, hcz10_1, hcz10_2, hcz10_3, hcz10_4, hfz10_0, hfz10_1, hfz10_2, hfz10_3, hfz10_4⟩ := xZ5 BK339.out) | (refine xG (some 8) Try.func297 #[.agg #[.int .i64 a0_0, .int .i64 a0_1, .int .i64 a0_2, .int .i64 a0_3, .bool a0_4]] ?_; (with_reducible refine (spec_foGood.calls a0_0 a0_1 a0_2 a0_3 a0_4 true _ A4.out).mono ?_); rintro e w11 ⟨rfl, hb⟩; refine ⟨_, rfl, ?_⟩; replace BK339 := xkb BK339 hb; replace HB := xA (below_step (xB1 GE339.out HB.out) hb); (try clear hb); replace hz339 := blk_cell BK339.out; replace hy339 := blk_frozen BK339.out) | (go_at_call 314; (with_reducible refine (spec_wdIn.calls a0_3 a0_4 a1 true _ A6.out).mono ?_); rintro e w13 ⟨rfl, hb⟩; replace BK339 := xkb BK339 hb; replace HB := xA (below_step (xB1 GE339.out HB.out) hb); (try clear hb)) | (go_at_call 230; (with_reducible refine (spec_l1In.calls a2 (-100000) 100000 t342 _ A8.out).mono ?_); rintro e w' ⟨rfl, ⟨nd, rfl⟩⟩))
 go_ret
 exact ⟨xr, xB1 GE339.out HB.out⟩
/-! ### spec_l1Least: function 270 -/
def spec_l1Least.f (a0 : Int) (a1 : Int) : Option (Int) := if a0 < a1 then (some a0) else (some a1)
set_option maxHeartbeats 200000000 in
set_option maxRecDepth 100000 in
theorem spec_l1Least.calls (a0 : Int) (a1 : Int) (r : Int) (w : World) (h : spec_l1Least.f a0 a1 = some r) :
  Calls Try.prog 270 #[.int .i64 a0, .int .i64 a1] w fun e w' => e = .returned (.int .i64 r) ∧ Drawn0 w w' := by
 have H : (if a0 < a1 then (some a0) else (some a1)) = some r := h
 clear h
 by_cases c3 : a0 < a1
 ·rw [if_pos c3] at H
  have c3b0 : decide (a0 < a1) = true := decide_eq_true c3
  clear c3
  obtain rfl := Option.some.inj H
  go_enter Try.func270, Try.ntmps270
  go_wp2
  go_ret
  exact ⟨by first | rfl | (simp; done) | (simp [*]; done), by repeat (first | exact Drawn0.refl _ | apply Drawn0.step)⟩
 rw [if_neg c3] at H
 have c3b0 : decide (a0 < a1) = false := decide_eq_false c3
 clear c3
 obtain rfl := Option.some.inj H
 go_enter Try.func270, Try.ntmps270
 go_wp2
 go_ret
 exact ⟨by first | rfl | (simp; done) | (simp [*]; done), by repeat (first | exact Drawn0.refl _ | apply Drawn0.step)⟩

/-! ### spec_l1Most: function 271 -/
def spec_l1Most.f (a0 : Int) (a1 : Int) : Option (Int) := if a0 > a1 then (some a0) else (some a1)
set_option maxHeartbeats 200000000 in
set_option maxRecDepth 100000 in
theorem spec_l1Most.calls (a0 : Int) (a1 : Int) (r : Int) (w : World) (h : spec_l1Most.f a0 a1 = some r) :
  Calls Try.prog 271 #[.int .i64 a0, .int .i64 a1] w fun e w' => e = .returned (.int .i64 r) ∧ Drawn0 w w' := by
 have H : (if a0 > a1 then (some a0) else (some a1)) = some r := h
 clear h
 by_cases c3 : a0 > a1
 ·rw [if_pos c3] at H
  have c3b0 : decide (a1 < a0) = true := decide_eq_true c3
  clear c3
  obtain rfl := Option.some.inj H
  go_enter Try.func271, Try.ntmps271
  go_wp2
  go_ret
  exact ⟨by first | rfl | (simp; done) | (simp [*]; done), by repeat (first | exact Drawn0.refl _ | apply Drawn0.step)⟩
 rw [if_neg c3] at H
 have c3b0 : decide (a1 < a0) = false := decide_eq_false c3
 clear c3
 obtain rfl := Option.some.inj H
 go_enter Try.func271, Try.ntmps271
 go_wp2
 go_ret
 exact ⟨by first | rfl | (simp; done) | (simp [*]; done), by repeat (first | exact Drawn0.refl _ | apply Drawn0.step)⟩

end Go.Proofs.Ytjplcongellcmaa.PFnFirstRuns
