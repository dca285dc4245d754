/- What each Go function that the statement FnPairsRun reaches answers, proved call by call. No condition beyond those that the theorems print. (Written by wip/tools/xprint.py of this repo, over the kit's print.) -/
import Derived.Test.YtjplcongellcmaaPFnPairsRunx0
import Derived.Test.YtjplcongellcmaaPFnPairsRunx2
namespace Go.Proofs.Ytjplcongellcmaa.PFnPairsRun
open Go.RowKit Go.Proofs.YtjplcongellcmaaW.PrintWords Go.Proofs.YtjplcongellcmaaW.PrintLast Go.Proofs.YtjplcongellcmaaW.PrintMore
attribute [local go_sem] max2_int min2_int max_two min_two max_three min_three max_four min_four   -- for this text's walks alone
set_option linter.unusedVariables false
set_option linter.unusedSimpArgs false

/-! ### impl_areParts_c1: function 396 -/
def impl_areParts_c1.f (a0_0 : Int) (a0_1 : Int) (a0_2 : Int) (a0_3 : Int) (a0_4 : Bool) : Option (Bool) := (impl_isFirst.f a0_0 a0_1 a0_2 a0_3 a0_4).bind fun t499 => (some (!t499))
set_option maxHeartbeats 200000000 in
set_option maxRecDepth 100000 in
theorem impl_areParts_c1.calls (a0_0 : Int) (a0_1 : Int) (a0_2 : Int) (a0_3 : Int) (a0_4 : Bool) (r : Bool) (w : World) (h : impl_areParts_c1.f a0_0 a0_1 a0_2 a0_3 a0_4 = some r) :
  Calls Try.prog 396 #[.agg #[.int .i64 a0_0, .int .i64 a0_1, .int .i64 a0_2, .int .i64 a0_3, .bool a0_4]] w fun e w' => e = .returned (.bool r) ∧ Below w.heap.size w w' := by
 have hu62 := Try.underlying62
 have HB := xA (Below.refl w.heap.size w)
 have H : ((impl_isFirst.f a0_0 a0_1 a0_2 a0_3 a0_4).bind fun t499 => (some (!t499))) = some r := h
 clear h
 obtain ⟨t499, A2, H⟩ := xO H
 (try dsimp only at H)
 obtain rfl := Option.some.inj H
 go_enter Try.func396, Try.ntmps396
 go_wp2_with (first | (refine xg 1 rfl ?_; refine xV 1 #[.int .i64 a0_0, .int .i64 a0_1, .int .i64 a0_2, .int .i64 a0_3, .bool a0_4] 62 ?_; intro gb498 hg w3 hbox hb; have BK498 := xA (hbox); have GW498 := xgw hg (below_size (xB HB.out)); have GE498 := GW498; replace HB := xA (below_step (xB HB.out) hb); clear hb hbox hg; replace hz498 := blk_cell BK498.out; replace hy498 := blk_frozen BK498.out) | (refine xG (some 4) Try.func294 #[.agg #[.int .i64 a0_0, .int .i64 a0_1, .int .i64 a0_2, .int .i64 a0_3, .bool a0_4]] ?_; (with_reducible refine (impl_isFirst.calls a0_0 a0_1 a0_2 a0_3 a0_4 t499 _ A2.out).mono ?_); rintro e w5 ⟨rfl, hb⟩; refine ⟨_, rfl, ?_⟩; replace BK498 := xkb BK498 hb; replace HB := xA (below_step (xB1 GE498.out HB.out) hb); (try clear hb)))
 go_ret
 exact ⟨xr, xB1 GE498.out HB.out⟩

/-! ### slices_IndexFunc_impl_First_impl_First_impl_areParts_c1: function 425 -/
def slices_IndexFunc_impl_First_impl_First_impl_areParts_c1.l0 : Nat → List (S62) → Int → Int → Option (Int)
 | 0, _, _, _ => none
 | k + 1, x0, x7, x8 => if x8 < x7 then (if 0 ≤ x8 then (if x8 < (x0.length : Int) then ((impl_areParts_c1.f ((rd_T62 x0 x8).f0) ((rd_T62 x0 x8).f1) ((rd_T62 x0 x8).f2) ((rd_T62 x0 x8).f3.f0) ((rd_T62 x0 x8).f3.f1)).bind fun t501 => (if t501 = true then (some x8) else (slices_IndexFunc_impl_First_impl_First_impl_areParts_c1.l0 k x0 x7 (wrap64 (x8 + 1))))) else (none)) else (none)) else (some (-1))
def slices_IndexFunc_impl_First_impl_First_impl_areParts_c1.f (k : Nat) (l0 : List (S62)) : Option (Int) := slices_IndexFunc_impl_First_impl_First_impl_areParts_c1.l0 k l0 (l0.length : Int) 0
theorem slices_IndexFunc_impl_First_impl_First_impl_areParts_c1.mono_l : ∀ k, (∀ y0 y1 y2, LeO (slices_IndexFunc_impl_First_impl_First_impl_areParts_c1.l0 k y0 y1 y2) (slices_IndexFunc_impl_First_impl_First_impl_areParts_c1.l0 (k + 1) y0 y1 y2))
 | 0 => fun _ _ _ r h => by simp [slices_IndexFunc_impl_First_impl_First_impl_areParts_c1.l0] at h
 | k + 1 => by
  have ih0 := slices_IndexFunc_impl_First_impl_First_impl_areParts_c1.mono_l k
  intros
  unfold slices_IndexFunc_impl_First_impl_First_impl_areParts_c1.l0
  exact xM
theorem slices_IndexFunc_impl_First_impl_First_impl_areParts_c1.mono : ∀ a0 k, LeO (slices_IndexFunc_impl_First_impl_First_impl_areParts_c1.f k a0) (slices_IndexFunc_impl_First_impl_First_impl_areParts_c1.f (k + 1) a0) := by
 intro a0 k
 have ih0 := slices_IndexFunc_impl_First_impl_First_impl_areParts_c1.mono_l k
 unfold slices_IndexFunc_impl_First_impl_First_impl_areParts_c1.f
 exact xM
set_option maxHeartbeats 200000000 in
set_option maxRecDepth 100000 in
theorem slices_IndexFunc_impl_First_impl_First_impl_areParts_c1.calls (k : Nat) (A0 : Option Addr) (c0 : Nat) (l0 : List (S62)) (r : Int) (w : World) (hr0 : Kd.C k62 w A0 l0.length l0) (hc0 : l0.length ≤ c0) (h : slices_IndexFunc_impl_First_impl_First_impl_areParts_c1.f k l0 = some r) :
  Calls Try.prog 400 #[.slice A0 l0.length c0, .func (.func 396) #[] #[]] w fun e w' => e = .returned (.int .i64 r) ∧ Below w.heap.size w w' := by
 have hu62 := Try.underlying62
 have HR0 := xA hr0
 have HC0 := xA hc0
 clear hr0 hc0
 have HB := xA (Below.refl w.heap.size w)
 have H : (slices_IndexFunc_impl_First_impl_First_impl_areParts_c1.l0 k l0 (l0.length : Int) 0) = some r := h
 clear h
 have H' := xA H
 clear H
 go_enter Try.func400, Try.ntmps400
 go_wp2
 go_loopg [8] k (fun kq v8 w' => ∃ (x8_1 : Int), v8 = .int .i64 x8_1 ∧ Aside0 (slices_IndexFunc_impl_First_impl_First_impl_areParts_c1.l0 kq l0 (l0.length : Int) x8_1 = some r) ∧ Aside0 (kq ≤ k) ∧ Aside0 (Below w.heap.size w w'))
 case atStart => exact ⟨(0), xs, H', ⟨Nat.le_refl _⟩, ⟨xB HB.out⟩⟩
 case round =>
  clear H'
  obtain ⟨x8_1, rfl, HA, HK1, HB⟩ := hrel
  cases gk with
  | zero => exact absurd HA.out (by simp [slices_IndexFunc_impl_First_impl_First_impl_areParts_c1.l0])
  | succ k1 =>
   have H := HA.out
   clear HA
   simp only [slices_IndexFunc_impl_First_impl_First_impl_areParts_c1.l0] at H
   by_cases c2 : x8_1 < (l0.length : Int)
   rotate_left
   ·rw [if_neg c2] at H
    have c2b0 : decide (x8_1 < (l0.length : Int)) = false := decide_eq_false c2
    clear c2
    obtain rfl := Option.some.inj H
    go_wp2
    go_ret
    exact ⟨xr, xB HB.out⟩

   rw [if_pos c2] at H
   have c2b0 : decide (x8_1 < (l0.length : Int)) = true := decide_eq_true c2
   clear c2
   by_cases c3 : 0 ≤ x8_1
   rotate_left
   ·rw [if_neg c3] at H
    exact absurd H (by simp)
   rw [if_pos c3] at H
   have c3b0 : decide (0 ≤ x8_1) = true := decide_eq_true c3
   clear c3
   by_cases c4 : x8_1 < (l0.length : Int)
   rotate_left
   ·rw [if_neg c4] at H
    exact absurd H (by simp)
   rw [if_pos c4] at H
   have c4b0 : decide (x8_1 < (l0.length : Int)) = true := decide_eq_true c4
   clear c4
   obtain ⟨t501, A5, H⟩ := xO H
   (try dsimp only at H)
   by_cases c6 : t501 = true
   ·subst c6
    rw [if_pos rfl] at H
    obtain rfl := Option.some.inj H
    have p500 : 0 ≤ (x8_1 : Int) := of_decide_eq_true (by first | (with_reducible assumption) | assumption)
    have q500 : x8_1 < (l0.length : Int) := of_decide_eq_true (by first | (with_reducible assumption) | assumption)
    obtain ⟨ad500, e500, hx500_0, hx500_1, hx500_2, hx500_3, hx500_4⟩ := at_T62 HR0.out x8_1 p500 q500
    cases e500
    replace hx500_0 := (HB.out.cell (World.block_lt_of_cell? w _ hx500_0)).trans hx500_0
    replace hx500_1 := (HB.out.cell (World.block_lt_of_cell? w _ hx500_1)).trans hx500_1
    replace hx500_2 := (HB.out.cell (World.block_lt_of_cell? w _ hx500_2)).trans hx500_2
    replace hx500_3 := (HB.out.cell (World.block_lt_of_cell? w _ hx500_3)).trans hx500_3
    replace hx500_4 := (HB.out.cell (World.block_lt_of_cell? w _ hx500_4)).trans hx500_4
    replace p500 := eq_true p500
    replace q500 := eq_true q500
    go_wp2_with (first | (go_at_call 396; (with_reducible refine (impl_areParts_c1.calls ((rd_T62 l0 x8_1).f0) ((rd_T62 l0 x8_1).f1) ((rd_T62 l0 x8_1).f2) ((rd_T62 l0 x8_1).f3.f0) ((rd_T62 l0 x8_1).f3.f1) true _ A5.out).mono ?_); rintro e w7 ⟨rfl, hb⟩; replace HB := xA (below_step (xB HB.out) hb); (try clear hb)))
    go_ret
    exact ⟨xr, xB HB.out⟩
   replace c6 := Bool.eq_false_iff.mpr c6
   subst c6
   rw [if_neg (show ¬ (false = true) by decide)] at H
   have H' := xA H
   clear H
   have p500 : 0 ≤ (x8_1 : Int) := of_decide_eq_true (by first | (with_reducible assumption) | assumption)
   have q500 : x8_1 < (l0.length : Int) := of_decide_eq_true (by first | (with_reducible assumption) | assumption)
   obtain ⟨ad500, e500, hx500_0, hx500_1, hx500_2, hx500_3, hx500_4⟩ := at_T62 HR0.out x8_1 p500 q500
   cases e500
   replace hx500_0 := (HB.out.cell (World.block_lt_of_cell? w _ hx500_0)).trans hx500_0
   replace hx500_1 := (HB.out.cell (World.block_lt_of_cell? w _ hx500_1)).trans hx500_1
   replace hx500_2 := (HB.out.cell (World.block_lt_of_cell? w _ hx500_2)).trans hx500_2
   replace hx500_3 := (HB.out.cell (World.block_lt_of_cell? w _ hx500_3)).trans hx500_3
   replace hx500_4 := (HB.out.cell (World.block_lt_of_cell? w _ hx500_4)).trans hx500_4
   replace p500 := eq_true p500
   replace q500 := eq_true q500
   go_wp2_with (first | (go_at_call 396; (with_reducible refine (impl_areParts_c1.calls ((rd_T62 l0 x8_1).f0) ((rd_T62 l0 x8_1).f1) ((rd_T62 l0 x8_1).f2) ((rd_T62 l0 x8_1).f3.f0) ((rd_T62 l0 x8_1).f3.f1) false _ A5.out).mono ?_); rintro e w8 ⟨rfl, hb⟩; replace HB := xA (below_step (xB HB.out) hb); (try clear hb)))
   go_roundg k1
   case measure => have := HK1.out; omega
   case rel => exact ⟨(wrap64 (x8_1 + 1)), xs, H', ⟨by have := HK1.out; omega⟩, ⟨xB HB.out⟩⟩
/-! ### slices_ContainsFunc_impl_First_impl_First_impl_areParts_c1: function 424 -/
def slices_ContainsFunc_impl_First_impl_First_impl_areParts_c1.f (k : Nat) (l0 : List (S62)) : Option (Bool) := (slices_IndexFunc_impl_First_impl_First_impl_areParts_c1.f k l0).bind fun t502 => (some (decide (t502 ≥ 0)))
theorem slices_ContainsFunc_impl_First_impl_First_impl_areParts_c1.mono : ∀ a0 k, LeO (slices_ContainsFunc_impl_First_impl_First_impl_areParts_c1.f k a0) (slices_ContainsFunc_impl_First_impl_First_impl_areParts_c1.f (k + 1) a0) := by
 intro a0 k
 have m0 := @slices_IndexFunc_impl_First_impl_First_impl_areParts_c1.mono
 unfold slices_ContainsFunc_impl_First_impl_First_impl_areParts_c1.f
 exact xM
set_option maxHeartbeats 200000000 in
set_option maxRecDepth 100000 in
theorem slices_ContainsFunc_impl_First_impl_First_impl_areParts_c1.calls (k : Nat) (A0 : Option Addr) (c0 : Nat) (l0 : List (S62)) (r : Bool) (w : World) (hr0 : Kd.C k62 w A0 l0.length l0) (hc0 : l0.length ≤ c0) (h : slices_ContainsFunc_impl_First_impl_First_impl_areParts_c1.f k l0 = some r) :
  Calls Try.prog 395 #[.slice A0 l0.length c0, .func (.func 396) #[] #[]] w fun e w' => e = .returned (.bool r) ∧ Below w.heap.size w w' := by
 have HR0 := xA hr0
 have HC0 := xA hc0
 clear hr0 hc0
 have HB := xA (Below.refl w.heap.size w)
 have H : ((slices_IndexFunc_impl_First_impl_First_impl_areParts_c1.f k l0).bind fun t502 => (some (decide (t502 ≥ 0)))) = some r := h
 clear h
 obtain ⟨t502, A2, H⟩ := xO H
 (try dsimp only at H)
 obtain rfl := Option.some.inj H
 go_enter Try.func395, Try.ntmps395
 go_wp2_with (first | (refine xG (some 7) Try.func400 #[.slice A0 l0.length c0, .func (.func 396) #[] #[]] ?_; (with_reducible refine (slices_IndexFunc_impl_First_impl_First_impl_areParts_c1.calls k _ _ l0 t502 _ ?side1 ?side2 A2.out).mono ?_); (case side1 => exact xC HR0.out); (case side2 => exact HC0.out); rintro e w3 ⟨rfl, hb⟩; refine ⟨_, rfl, ?_⟩; replace HB := xA (below_step (xB HB.out) hb); (try clear hb)))
 go_ret
 exact ⟨xr, xB HB.out⟩

/-! ### impl_areParts: function 346 -/
def impl_areParts.f (k : Nat) (l0 : List (S62)) : Option (Bool) := (impl_in.f (l0.length : Int) 1 4).bind fun t503 => (if t503 = true then ((slices_ContainsFunc_impl_First_impl_First_impl_areParts_c1.f k l0).bind fun t504 => (some (!t504))) else (some false))
theorem impl_areParts.mono : ∀ a0 k, LeO (impl_areParts.f k a0) (impl_areParts.f (k + 1) a0) := by
 intro a0 k
 have m0 := @slices_ContainsFunc_impl_First_impl_First_impl_areParts_c1.mono
 unfold impl_areParts.f
 exact xM
set_option maxHeartbeats 200000000 in
set_option maxRecDepth 100000 in
theorem impl_areParts.calls (k : Nat) (A0 : Option Addr) (c0 : Nat) (l0 : List (S62)) (r : Bool) (w : World) (hr0 : Kd.C k62 w A0 l0.length l0) (hc0 : l0.length ≤ c0) (h : impl_areParts.f k l0 = some r) :
  Calls Try.prog 346 #[.slice A0 l0.length c0] w fun e w' => e = .returned (.bool r) ∧ Below w.heap.size w w' := by
 have HR0 := xA hr0
 have HC0 := xA hc0
 clear hr0 hc0
 have HB := xA (Below.refl w.heap.size w)
 have H : ((impl_in.f (l0.length : Int) 1 4).bind fun t503 => (if t503 = true then ((slices_ContainsFunc_impl_First_impl_First_impl_areParts_c1.f k l0).bind fun t504 => (some (!t504))) else (some false))) = some r := h
 clear h
 obtain ⟨t503, A2, H⟩ := xO H
 (try dsimp only at H)
 by_cases c3 : t503 = true
 rotate_left
 ·replace c3 := Bool.eq_false_iff.mpr c3
  subst c3
  rw [if_neg (show ¬ (false = true) by decide)] at H
  obtain rfl := Option.some.inj H
  go_enter Try.func346, Try.ntmps346
  go_wp2_with (first | (refine xG (some 5) Try.func223 #[.int .i64 (l0.length : Int), .int .i64 1, .int .i64 4] ?_; (with_reducible refine (impl_in.calls (l0.length : Int) 1 4 false _ A2.out).mono ?_); rintro e w' ⟨rfl, ⟨nd, rfl⟩⟩; refine ⟨_, rfl, ?_⟩))
  go_ret
  exact ⟨xr, xB HB.out⟩

 subst c3
 rw [if_pos rfl] at H
 obtain ⟨t504, A4, H⟩ := xO H
 (try dsimp only at H)
 obtain rfl := Option.some.inj H
 go_enter Try.func346, Try.ntmps346
 go_wp2_with (first | (refine xG (some 5) Try.func223 #[.int .i64 (l0.length : Int), .int .i64 1, .int .i64 4] ?_; (with_reducible refine (impl_in.calls (l0.length : Int) 1 4 true _ A2.out).mono ?_); rintro e w' ⟨rfl, ⟨nd, rfl⟩⟩; refine ⟨_, rfl, ?_⟩) | (go_at_call 395; (with_reducible refine (slices_ContainsFunc_impl_First_impl_First_impl_areParts_c1.calls k _ _ l0 t504 _ ?side1 ?side2 A4.out).mono ?_); (case side1 => exact xC HR0.out); (case side2 => exact HC0.out); rintro e w5 ⟨rfl, hb⟩; replace HB := xA (below_step (xB HB.out) hb); (try clear hb)))
 go_ret
 exact ⟨xr, xB HB.out⟩
/-! ### impl_shiftOf: function 397 -/
def impl_shiftOf.l0 : Nat → Int → List (S62) → Int → Int → Option (Int)
 | 0, _, _, _, _ => none
 | k + 1, x3, x6, x7, x8 => if x8 < x7 then (if 0 ≤ x8 then (if x8 < (x6.length : Int) then (impl_shiftOf.l0 k (wrap64 (x3 + ((rd_T62 x6 x8).f1))) x6 x7 (wrap64 (x8 + 1))) else (none)) else (none)) else (some x3)
def impl_shiftOf.f (k : Nat) (l0 : List (S62)) : Option (Int) := impl_shiftOf.l0 k 0 l0 (l0.length : Int) 0
theorem impl_shiftOf.mono_l : ∀ k, (∀ y0 y1 y2 y3, LeO (impl_shiftOf.l0 k y0 y1 y2 y3) (impl_shiftOf.l0 (k + 1) y0 y1 y2 y3))
 | 0 => fun _ _ _ _ r h => by simp [impl_shiftOf.l0] at h
 | k + 1 => by
  have ih0 := impl_shiftOf.mono_l k
  intros
  unfold impl_shiftOf.l0
  exact xM
theorem impl_shiftOf.mono : ∀ a0 k, LeO (impl_shiftOf.f k a0) (impl_shiftOf.f (k + 1) a0) := by
 intro a0 k
 have ih0 := impl_shiftOf.mono_l k
 unfold impl_shiftOf.f
 exact xM
set_option maxHeartbeats 200000000 in
set_option maxRecDepth 100000 in
theorem impl_shiftOf.calls (k : Nat) (A0 : Option Addr) (c0 : Nat) (l0 : List (S62)) (r : Int) (w : World) (hr0 : Kd.C k62 w A0 l0.length l0) (hc0 : l0.length ≤ c0) (h : impl_shiftOf.f k l0 = some r) :
  Calls Try.prog 397 #[.slice A0 l0.length c0] w fun e w' => e = .returned (.int .i64 r) ∧ Below w.heap.size w w' := by
 have hu62 := Try.underlying62
 have HR0 := xA hr0
 have HC0 := xA hc0
 clear hr0 hc0
 have HB := xA (Below.refl w.heap.size w)
 have H : (impl_shiftOf.l0 k 0 l0 (l0.length : Int) 0) = some r := h
 clear h
 have H' := xA H
 clear H
 go_enter Try.func397, Try.ntmps397
 go_wp2
 go_loopg [3, 8] k (fun kq v3 v8 w' => ∃ (x3_1 : Int) (x8_1 : Int), v3 = .int .i64 x3_1 ∧ v8 = .int .i64 x8_1 ∧ Aside0 (impl_shiftOf.l0 kq x3_1 l0 (l0.length : Int) x8_1 = some r) ∧ Aside0 (kq ≤ k) ∧ Aside0 (Below w.heap.size w w'))
 case atStart => exact ⟨(0), (0), xs, xs, H', ⟨Nat.le_refl _⟩, ⟨xB HB.out⟩⟩
 case round =>
  clear H'
  obtain ⟨x3_1, x8_1, rfl, rfl, HA, HK1, HB⟩ := hrel
  cases gk with
  | zero => exact absurd HA.out (by simp [impl_shiftOf.l0])
  | succ k1 =>
   have H := HA.out
   clear HA
   simp only [impl_shiftOf.l0] at H
   by_cases c2 : x8_1 < (l0.length : Int)
   rotate_left
   ·rw [if_neg c2] at H
    have c2b0 : decide (x8_1 < (l0.length : Int)) = false := decide_eq_false c2
    clear c2
    obtain rfl := Option.some.inj H
    go_wp2
    go_ret
    exact ⟨xr, xB HB.out⟩

   rw [if_pos c2] at H
   have c2b0 : decide (x8_1 < (l0.length : Int)) = true := decide_eq_true c2
   clear c2
   by_cases c3 : 0 ≤ x8_1
   rotate_left
   ·rw [if_neg c3] at H
    exact absurd H (by simp)
   rw [if_pos c3] at H
   have c3b0 : decide (0 ≤ x8_1) = true := decide_eq_true c3
   clear c3
   by_cases c4 : x8_1 < (l0.length : Int)
   rotate_left
   ·rw [if_neg c4] at H
    exact absurd H (by simp)
   rw [if_pos c4] at H
   have c4b0 : decide (x8_1 < (l0.length : Int)) = true := decide_eq_true c4
   clear c4
   have H' := xA H
   clear H
   have p505 : 0 ≤ (x8_1 : Int) := of_decide_eq_true (by first | (with_reducible assumption) | assumption)
   have q505 : x8_1 < (l0.length : Int) := of_decide_eq_true (by first | (with_reducible assumption) | assumption)
   obtain ⟨ad505, e505, hx505_0, hx505_1, hx505_2, hx505_3, hx505_4⟩ := at_T62 HR0.out x8_1 p505 q505
   cases e505
   replace hx505_0 := (HB.out.cell (World.block_lt_of_cell? w _ hx505_0)).trans hx505_0
   replace hx505_1 := (HB.out.cell (World.block_lt_of_cell? w _ hx505_1)).trans hx505_1
   replace hx505_2 := (HB.out.cell (World.block_lt_of_cell? w _ hx505_2)).trans hx505_2
   replace hx505_3 := (HB.out.cell (World.block_lt_of_cell? w _ hx505_3)).trans hx505_3
   replace hx505_4 := (HB.out.cell (World.block_lt_of_cell? w _ hx505_4)).trans hx505_4
   replace p505 := eq_true p505
   replace q505 := eq_true q505
   go_wp2_with (first | (refine xg 5 rfl ?_; refine xV 5 #[.int .i64 0, .int .i64 0, .int .i64 0, .int .i64 0, .bool false] 62 ?_; intro gb506 hg w5 hbox hb; have BK506 := xA (hbox); have GW506 := xgw hg (below_size (xB HB.out)); have GE506 := GW506; replace HB := xA (below_step (xB HB.out) hb); clear hb hbox hg; replace hz506 := blk_cell BK506.out; replace hy506 := blk_frozen BK506.out))
   go_roundg k1
   case measure => have := HK1.out; omega
   case rel => exact ⟨(wrap64 (x3_1 + ((rd_T62 l0 x8_1).f1))), (wrap64 (x8_1 + 1)), xs, xs, H', ⟨by have := HK1.out; omega⟩, ⟨xB1 GE506.out HB.out⟩⟩
end Go.Proofs.Ytjplcongellcmaa.PFnPairsRun
