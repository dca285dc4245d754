/- What each Go function that the statement FnPairsRun reaches answers, proved call by call. No condition beyond those that the theorems print. (Written by wip/tools/xprint.py of this repo, over the kit's print.) -/
import Derived.Test.YtjplcongellcmaaPFnPairsRunx0
import Derived.Test.YtjplcongellcmaaPFnPairsRunx3
import Derived.Test.YtjplcongellcmaaPFnPairsRunx6
namespace Go.Proofs.Ytjplcongellcmaa.PFnPairsRun
open Go.RowKit Go.Proofs.YtjplcongellcmaaW.PrintWords Go.Proofs.YtjplcongellcmaaW.PrintLast Go.Proofs.YtjplcongellcmaaW.PrintMore
attribute [local go_sem] max2_int min2_int max_two min_two max_three min_three max_four min_four   -- for this text's walks alone
set_option linter.unusedVariables false
set_option linter.unusedSimpArgs false
def x7a0 : Array Bool := #[Zz,Zz,Zz,Zz,Zz,Zz,Zz,Zz,Zz,Zz,Zz]
def x7a1 : Array Bool := #[Yy,Zz,Zz,Zz,Zz,Zz,Zz,Zz,Zz,Zz,Zz]
def x7a2 : Array Bool := #[Yy,Yy,Zz,Zz,Zz,Zz,Zz,Zz,Zz,Zz,Zz]
def x7a3 : Array Bool := #[Yy,Yy,Yy,Zz,Zz,Zz,Zz,Zz,Zz,Zz,Zz]
def x7a4 : Array Bool := #[Yy,Yy,Yy,Yy,Zz,Zz,Zz,Zz,Zz,Zz,Zz]
def x7a5 : Array Bool := #[Yy,Yy,Yy,Yy,Yy,Zz,Zz,Zz,Zz,Zz,Zz]
def x7a6 : Array Bool := #[Yy,Yy,Yy,Yy,Yy,Yy,Zz,Zz,Zz,Zz,Zz]
def x7a7 : Array Bool := #[Yy,Yy,Yy,Yy,Yy,Yy,Yy,Zz,Zz,Zz,Zz]
def x7a8 : Array Bool := #[Yy,Yy,Yy,Yy,Yy,Yy,Yy,Yy,Zz,Zz,Zz]
def x7a9 : Array Bool := #[Yy,Yy,Yy,Yy,Yy,Yy,Yy,Yy,Yy,Zz,Zz]
def x7a10 : Array Bool := #[Yy,Yy,Yy,Yy,Yy,Yy,Yy,Yy,Yy,Yy,Zz]
def x7a11 : Array Bool := #[Yy,Yy,Yy,Yy,Yy,Yy,Yy,Yy,Yy,Yy,Yy]
def x7a12 : Array Bool := #[Yy,Yy,Yy,Yy,Yy,Zz,Yy,Zz,Zz,Zz,Zz]
def x7a13 : Array Bool := #[Zz,Zz,Zz,Zz,Zz,Zz,Zz,Zz]
def x7a14 : Array Bool := #[Zz,Zz,Zz,Zz,Yy,Zz,Zz,Zz]
def x7a15 : Array Bool := #[Yy,Zz,Zz,Zz,Yy,Zz,Zz,Zz]
def x7a16 : Array Bool := #[Yy,Zz,Yy,Zz,Yy,Zz,Zz,Zz]
def x7a17 : Array Bool := #[Yy,Yy,Yy,Zz,Yy,Zz,Zz,Zz]
def x7a18 : Array Bool := #[Yy,Yy,Yy,Yy,Yy,Zz,Zz,Zz]
def x7a19 : Array Bool := #[Yy,Yy,Yy,Yy,Yy,Yy,Zz,Zz]
def x7a20 : Array Bool := #[Yy,Yy,Yy,Yy,Yy,Yy,Yy,Zz]
def x7a21 : Array Bool := #[Yy,Yy,Yy,Yy,Yy,Yy,Yy,Yy]

/-! ### spec_wdSignal: function 236 -/
def spec_wdSignal.f (k : Nat) (l0 : List Int) : Option (Bool) := if (l0.length : Int) ≤ 64 then ((spec_l1All.f k l0 (-100000) 100000).bind fun t338 => (some t338)) else (some false)
theorem spec_wdSignal.mono : ∀ a0 k, LeO (spec_wdSignal.f k a0) (spec_wdSignal.f (k + 1) a0) := by
 intro a0 k
 have m0 := @spec_l1All.mono
 unfold spec_wdSignal.f
 exact xM
set_option maxHeartbeats 200000000 in
set_option maxRecDepth 100000 in
theorem spec_wdSignal.calls (k : Nat) (A0 : Option Addr) (c0 : Nat) (l0 : List Int) (r : Bool) (w : World) (hr0 : Kd.C (Kd.int .i64) w A0 l0.length l0) (hc0 : l0.length ≤ c0) (h : spec_wdSignal.f k l0 = some r) :
  Calls Try.prog 236 #[.slice A0 l0.length c0] w fun e w' => e = .returned (.bool r) ∧ Drawn0 w w' := by
 have HR0 := xA hr0
 have HC0 := xA hc0
 clear hr0 hc0
 have H : (if (l0.length : Int) ≤ 64 then ((spec_l1All.f k l0 (-100000) 100000).bind fun t338 => (some t338)) else (some false)) = some r := h
 clear h
 by_cases c2 : (l0.length : Int) ≤ 64
 rotate_left
 ·rw [if_neg c2] at H
  have c2b0 : decide ((l0.length : Int) ≤ 64) = false := decide_eq_false c2
  have c2b1 : decide (l0.length ≤ 64) = false := decide_eq_false (by omega)
  clear c2
  obtain rfl := Option.some.inj H
  go_enter Try.func236, Try.ntmps236
  go_wp2
  go_ret
  exact ⟨by first | rfl | (simp; done) | (simp [*]; done), by repeat (first | exact Drawn0.refl _ | apply Drawn0.step)⟩

 rw [if_pos c2] at H
 have c2b0 : decide ((l0.length : Int) ≤ 64) = true := decide_eq_true c2
 have c2b1 : decide (l0.length ≤ 64) = true := decide_eq_true (by omega)
 clear c2
 obtain ⟨t338, A3, H⟩ := xO H
 (try dsimp only at H)
 obtain rfl := Option.some.inj H
 go_enter Try.func236, Try.ntmps236
 go_wp2_with (first | (go_at_call 373; (with_reducible refine (spec_l1All.calls k _ _ l0 (-100000) 100000 t338 _ ?side1 ?side2 A3.out).mono ?_); (case side1 => exact xC HR0.out); (case side2 => exact HC0.out); rintro e w' ⟨rfl, ⟨nd, rfl⟩⟩))
 go_ret
 exact ⟨by first | rfl | (simp; done) | (simp [*]; done), by repeat (first | exact Drawn0.refl _ | apply Drawn0.step)⟩
/-! ### spec_wdIn: function 314 -/
def spec_wdIn.f (a0_0 : Int) (a0_1 : Bool) (a1 : Int) : Option (Bool) := (spec_wdGood.f a0_0 a0_1).bind fun t340 => (if t340 = true then ((spec_wdLow.f a0_0 a0_1).bind fun t341 => ((spec_wdHigh.f a0_0 a0_1).bind fun t342 => ((spec_l1In.f a1 t341 t342).bind fun t343 => (some t343)))) else (some false))
def spec_wdIn.T1 : Bool × List (List Nat × List Nat) := (true, [([], []), ([0], [0]), ([1, 1], [1]), ([2], [2]), ([2], [2]), ([4, 2, 2], [2, 4]), ([2], [2]), ([6, 5, 2], [2, 6]), ([3, 5, 7, 7, 2], [2, 3, 5, 7]), ([2, 8], [2, 8]), ([9, 8, 0, 1, 2, 3, 4, 5, 6, 7, 8, 9], [9])])
def spec_wdIn.B1 : List Nat := [0, 1, 3, 7, 7, 23, 7, 119, 255, 511, 1023]
theorem spec_wdIn.tab1 : rtab .any (opsOf Try.f314 1) = spec_wdIn.T1 := by kernel_rfl
theorem spec_wdIn.bits1 : waitsOk spec_wdIn.T1.2 spec_wdIn.B1 = true := by kernel_rfl
set_option maxHeartbeats 200000000 in
set_option maxRecDepth 100000 in
theorem spec_wdIn.calls (a0_0 : Int) (a0_1 : Bool) (a1 : Int) (r : Bool) (w : World) (h : spec_wdIn.f a0_0 a0_1 a1 = some r) :
  Calls Try.prog 314 #[.agg #[.int .i64 a0_0, .bool a0_1], .int .i64 a1] w fun e w' => e = .returned (.bool r) ∧ Below w.heap.size w w' := by
 have hu46 := Try.underlying46
 have HB := xA (Below.refl w.heap.size w)
 have H : ((spec_wdGood.f a0_0 a0_1).bind fun t340 => (if t340 = true then ((spec_wdLow.f a0_0 a0_1).bind fun t341 => ((spec_wdHigh.f a0_0 a0_1).bind fun t342 => ((spec_l1In.f a1 t341 t342).bind fun t343 => (some t343)))) else (some false))) = some r := h
 clear h
 obtain ⟨t340, A3, H⟩ := xO H
 (try dsimp only at H)
 by_cases c4 : t340 = true
 rotate_left
 ·replace c4 := Bool.eq_false_iff.mpr c4
  subst c4
  rw [if_neg (show ¬ (false = true) by decide)] at H
  obtain rfl := Option.some.inj H
  go_enter Try.func314, Try.ntmps314
  try go_wp2_with (first | (refine xg 2 rfl ?_; refine xV 2 #[.int .i64 a0_0, .bool a0_1] 46 ?_; intro gb339 hg w13 hbox hb; have BK339 := xA (hbox); have GW339 := xgw hg (below_size (xB HB.out)); have GE339 := GW339; replace HB := xA (below_step (xB HB.out) hb); clear hb hbox hg))
  replace BK339 := xA (blk_drew BK339.out)
  replace HB := xA (below_drew1 HB.out)
  refine start_ (n := 11) (S := fun w' => w'.cell? ⟨gb339, 0, none⟩ = some (.int .i64 a0_0) ∧ w'.cell? ⟨gb339, 1, none⟩ = some (.bool a0_1)) (ds := []) x7a0 (by kernel_rfl) rfl rfl ⟨(blk_cell BK339.out 0).trans rfl, (blk_cell BK339.out 1).trans rfl⟩ (fun hHeld => ?_); refine with_tabW spec_wdIn.tab1 spec_wdIn.bits1 (fun HT_ HW_ => ?_)
  generalize w13.drew = w14 at BK339 HB hHeld ⊢
  refine xT2 hHeld 0 5 x7a1 ?_
  refine xU 1 6 x7a2 (fun K hK => ?_)
  refine xY Try.func267 #[.agg #[.int .i64 a0_0, .bool a0_1]] ?_
  with_reducible refine (spec_wdGood.calls a0_0 a0_1 false _ A3.out).mono ?_
  rintro e w15 ⟨rfl, hb⟩
  refine ⟨_, rfl, ?_⟩
  replace BK339 := xkb BK339 hb
  replace HB := xA (below_step (xB1 GE339.out HB.out) hb)
  (try clear hb); (try clear hb2); (try clear hk); (try clear hi)
  refine hK.out _ _ ⟨(blk_cell BK339.out 0).trans rfl, (blk_cell BK339.out 1).trans rfl⟩ (fun hHeld => ?_)
  clear hK K
  refine xN ?_
  refine xP 2 7 x7a3 ?_
  refine pure_ (i := 3) (N := some 8) (v := undef) (a' := ?_) x7a4 rfl rfl (any_of HT_.out (by kernel_rfl)) (fun _ _ _ h => h) (Or.inr ⟨by rfl, rfl⟩) ?_ ?_
  rotate_left
  ·exact xE
  refine pure_ (i := 4) (N := some 9) (v := undef) (a' := ?_) x7a5 rfl rfl (any_of HT_.out (by kernel_rfl)) (fun _ _ _ h => h) (Or.inr ⟨by rfl, rfl⟩) ?_ ?_
  rotate_left
  ·exact xE
  refine pure_ (i := 5) (N := some 10) (v := undef) (a' := ?_) x7a6 rfl rfl (any_of HT_.out (by kernel_rfl)) (fun _ _ _ h => h) (Or.inr ⟨by rfl, rfl⟩) ?_ ?_
  rotate_left
  ·exact xE
  refine pure_ (i := 6) (N := some 11) (v := undef) (a' := ?_) x7a7 rfl rfl (any_of HT_.out (by kernel_rfl)) (fun _ _ _ h => h) (Or.inr ⟨by rfl, rfl⟩) ?_ ?_
  rotate_left
  ·exact xE
  refine pure_ (i := 7) (N := some 12) (v := undef) (a' := ?_) x7a8 rfl rfl (any_of HT_.out (by kernel_rfl)) (fun _ _ _ h => h) (Or.inr ⟨by rfl, rfl⟩) ?_ ?_
  rotate_left
  ·exact xE
  refine pure_ (i := 8) (N := some 13) (v := undef) (a' := ?_) x7a9 rfl rfl (any_of HT_.out (by kernel_rfl)) (fun _ _ _ h => h) (Or.inr ⟨by rfl, rfl⟩) ?_ ?_
  rotate_left
  ·exact xE
  refine xP 9 14 x7a10 ?_
  refine xP 10 4 x7a11 ?_
  refine xDn ?_
  try go_wp2
  go_ret
  exact ⟨xr, xB1 GE339.out HB.out⟩

 subst c4
 rw [if_pos rfl] at H
 obtain ⟨t341, A5, H⟩ := xO H
 (try dsimp only at H)
 obtain ⟨t342, A6, H⟩ := xO H
 (try dsimp only at H)
 obtain ⟨t343, A7, H⟩ := xO H
 (try dsimp only at H)
 obtain rfl := Option.some.inj H
 go_enter Try.func314, Try.ntmps314
 try go_wp2_with (first | (refine xg 2 rfl ?_; refine xV 2 #[.int .i64 a0_0, .bool a0_1] 46 ?_; intro gb339 hg w8 hbox hb; have BK339 := xA (hbox); have GW339 := xgw hg (below_size (xB HB.out)); have GE339 := GW339; replace HB := xA (below_step (xB HB.out) hb); clear hb hbox hg))
 replace BK339 := xA (blk_drew BK339.out)
 replace HB := xA (below_drew1 HB.out)
 refine start_ (n := 11) (S := fun w' => w'.cell? ⟨gb339, 0, none⟩ = some (.int .i64 a0_0) ∧ w'.cell? ⟨gb339, 1, none⟩ = some (.bool a0_1)) (ds := []) x7a0 (by kernel_rfl) rfl rfl ⟨(blk_cell BK339.out 0).trans rfl, (blk_cell BK339.out 1).trans rfl⟩ (fun hHeld => ?_); refine with_tabW spec_wdIn.tab1 spec_wdIn.bits1 (fun HT_ HW_ => ?_)
 generalize w8.drew = w9 at BK339 HB hHeld ⊢
 refine xT2 hHeld 0 5 x7a1 ?_
 refine xU 1 6 x7a2 (fun K hK => ?_)
 refine xY Try.func267 #[.agg #[.int .i64 a0_0, .bool a0_1]] ?_
 with_reducible refine (spec_wdGood.calls a0_0 a0_1 true _ A3.out).mono ?_
 rintro e w10 ⟨rfl, hb⟩
 refine ⟨_, rfl, ?_⟩
 replace BK339 := xkb BK339 hb
 replace HB := xA (below_step (xB1 GE339.out HB.out) hb)
 (try clear hb); (try clear hb2); (try clear hk); (try clear hi)
 refine hK.out _ _ ⟨(blk_cell BK339.out 0).trans rfl, (blk_cell BK339.out 1).trans rfl⟩ (fun hHeld => ?_)
 clear hK K
 refine xN ?_
 refine xP 2 7 x7a3 ?_
 refine xP 3 8 x7a4 ?_
 refine xT2 hHeld 4 9 x7a5 ?_
 refine xT2 hHeld 6 11 x7a12 ?_
 refine xU 5 10 x7a7 (fun K hK => ?_)
 refine xY Try.func268 #[.agg #[.int .i64 a0_0, .bool a0_1]] ?_
 with_reducible refine (spec_wdLow.calls a0_0 a0_1 t341 _ A5.out).mono ?_
 rintro e w11 ⟨rfl, hb⟩
 refine ⟨_, rfl, ?_⟩
 replace BK339 := xkb BK339 hb
 replace HB := xA (below_step (xB1 GE339.out HB.out) hb)
 (try clear hb); (try clear hb2); (try clear hk); (try clear hi)
 refine hK.out _ _ ⟨(blk_cell BK339.out 0).trans rfl, (blk_cell BK339.out 1).trans rfl⟩ (fun hHeld => ?_)
 clear hK K
 refine xN ?_
 refine xU 7 12 x7a8 (fun K hK => ?_)
 refine xY Try.func269 #[.agg #[.int .i64 a0_0, .bool a0_1]] ?_
 with_reducible refine (spec_wdHigh.calls a0_0 a0_1 t342 _ A6.out).mono ?_
 rintro e w12 ⟨rfl, hb⟩
 refine ⟨_, rfl, ?_⟩
 replace BK339 := xkb BK339 hb
 replace HB := xA (below_step (xB1 GE339.out HB.out) hb)
 (try clear hb); (try clear hb2); (try clear hk); (try clear hi)
 refine hK.out _ _ ⟨(blk_cell BK339.out 0).trans rfl, (blk_cell BK339.out 1).trans rfl⟩ (fun hHeld => ?_)
 clear hK K
 refine xN ?_
 refine xU 8 13 x7a9 (fun K hK => ?_)
 refine xY Try.func230 #[.int .i64 a1, .int .i64 t341, .int .i64 t342] ?_
 with_reducible refine (spec_l1In.calls a1 t341 t342 t343 _ A7.out).mono ?_
 rintro e w' ⟨rfl, ⟨nd, rfl⟩⟩
 refine ⟨_, rfl, ?_⟩
 refine hK.out _ _ ⟨(blk_cell BK339.out 0).trans rfl, (blk_cell BK339.out 1).trans rfl⟩ (fun hHeld => ?_)
 clear hK K
 refine xN ?_
 refine xP 9 14 x7a10 ?_
 refine xP 10 4 x7a11 ?_
 refine xDn ?_
 try go_wp2
 go_ret
 exact ⟨xr, xB1 GE339.out HB.out⟩
/-! ### spec_wdMode: function 366 -/
def spec_wdMode.f (a0 : Int) (a1 : Int) : Option (Bool) := (spec_l1In.f a0 0 20).bind fun t344 => (if t344 = true then ((spec_l1In.f a1 0 2).bind fun t345 => (some t345)) else (some false))
set_option maxHeartbeats 200000000 in
set_option maxRecDepth 100000 in
theorem spec_wdMode.calls (a0 : Int) (a1 : Int) (r : Bool) (w : World) (h : spec_wdMode.f a0 a1 = some r) :
  Calls Try.prog 366 #[.int .i64 a0, .int .i64 a1] w fun e w' => e = .returned (.bool r) ∧ Drawn0 w w' := by
 have H : ((spec_l1In.f a0 0 20).bind fun t344 => (if t344 = true then ((spec_l1In.f a1 0 2).bind fun t345 => (some t345)) else (some false))) = some r := h
 clear h
 obtain ⟨t344, A3, H⟩ := xO H
 (try dsimp only at H)
 by_cases c4 : t344 = true
 rotate_left
 ·replace c4 := Bool.eq_false_iff.mpr c4
  subst c4
  rw [if_neg (show ¬ (false = true) by decide)] at H
  obtain rfl := Option.some.inj H
  go_enter Try.func366, Try.ntmps366
  go_wp2_with (first | (refine xG (some 6) Try.func230 #[.int .i64 a0, .int .i64 0, .int .i64 20] ?_; (with_reducible refine (spec_l1In.calls a0 0 20 false _ A3.out).mono ?_); rintro e w' ⟨rfl, ⟨nd, rfl⟩⟩; refine ⟨_, rfl, ?_⟩))
  go_ret
  exact ⟨by first | rfl | (simp; done) | (simp [*]; done), by repeat (first | exact Drawn0.refl _ | apply Drawn0.step)⟩

 subst c4
 rw [if_pos rfl] at H
 obtain ⟨t345, A5, H⟩ := xO H
 (try dsimp only at H)
 obtain rfl := Option.some.inj H
 go_enter Try.func366, Try.ntmps366
 go_wp2_with (first | (refine xG (some 6) Try.func230 #[.int .i64 a0, .int .i64 0, .int .i64 20] ?_; (with_reducible refine (spec_l1In.calls a0 0 20 true _ A3.out).mono ?_); rintro e w' ⟨rfl, ⟨nd, rfl⟩⟩; refine ⟨_, rfl, ?_⟩) | (go_at_call 230; (with_reducible refine (spec_l1In.calls a1 0 2 t345 _ A5.out).mono ?_); rintro e w' ⟨rfl, ⟨nd, rfl⟩⟩))
 go_ret
 exact ⟨by first | rfl | (simp; done) | (simp [*]; done), by repeat (first | exact Drawn0.refl _ | apply Drawn0.step)⟩
/-! ### spec_sdGood: function 345 -/
def spec_sdGood.f (a0_0 : Int) (a0_1 : Int) (a0_2 : Int) (a0_3 : Int) (a0_4 : Int) (a0_5 : Bool) : Option (Bool) := (spec_l1In.f a0_0 (-1024) 1024).bind fun t347 => (if t347 = true then ((spec_l1In.f a0_1 (-1024) 1024).bind fun t348 => (if t348 = true then ((spec_l1In.f a0_2 0 10).bind fun t349 => (if t349 = true then ((spec_wdMode.f a0_2 a0_3).bind fun t350 => (if t350 = true then ((spec_wdGood.f a0_4 a0_5).bind fun t351 => (some t351)) else (some false))) else (some false))) else (some false))) else (some false))
set_option maxHeartbeats 200000000 in
set_option maxRecDepth 100000 in
theorem spec_sdGood.calls (a0_0 : Int) (a0_1 : Int) (a0_2 : Int) (a0_3 : Int) (a0_4 : Int) (a0_5 : Bool) (r : Bool) (w : World) (h : spec_sdGood.f a0_0 a0_1 a0_2 a0_3 a0_4 a0_5 = some r) :
  Calls Try.prog 345 #[.agg #[.int .i64 a0_0, .int .i64 a0_1, .int .i64 a0_2, .int .i64 a0_3, .int .i64 a0_4, .bool a0_5]] w fun e w' => e = .returned (.bool r) ∧ Below w.heap.size w w' := by
 have hu91 := Try.underlying91
 have hu46 := Try.underlying46
 have HB := xA (Below.refl w.heap.size w)
 have H : ((spec_l1In.f a0_0 (-1024) 1024).bind fun t347 => (if t347 = true then ((spec_l1In.f a0_1 (-1024) 1024).bind fun t348 => (if t348 = true then ((spec_l1In.f a0_2 0 10).bind fun t349 => (if t349 = true then ((spec_wdMode.f a0_2 a0_3).bind fun t350 => (if t350 = true then ((spec_wdGood.f a0_4 a0_5).bind fun t351 => (some t351)) else (some false))) else (some false))) else (some false))) else (some false))) = some r := h
 clear h
 obtain ⟨t347, A2, H⟩ := xO H
 (try dsimp only at H)
 by_cases c3 : t347 = true
 rotate_left
 ·replace c3 := Bool.eq_false_iff.mpr c3
  subst c3
  rw [if_neg (show ¬ (false = true) by decide)] at H
  obtain rfl := Option.some.inj H
  go_enter Try.func345, Try.ntmps345
  go_wp2_with (first | (refine xg 1 rfl ?_; refine xV 1 #[.int .i64 a0_0, .int .i64 a0_1, .int .i64 a0_2, .int .i64 a0_3, .int .i64 a0_4, .bool a0_5] 91 ?_; intro gb346 hg w20 hbox hb; have BK346 := xA (hbox); have GW346 := xgw hg (below_size (xB HB.out)); have GE346 := GW346; replace HB := xA (below_step (xB HB.out) hb); clear hb hbox hg; replace hz346 := blk_cell BK346.out; replace hy346 := blk_frozen BK346.out) | (refine xG (some 5) Try.func230 #[.int .i64 a0_0, .int .i64 (-1024), .int .i64 1024] ?_; (with_reducible refine (spec_l1In.calls a0_0 (-1024) 1024 false _ A2.out).mono ?_); rintro e w' ⟨rfl, ⟨nd, rfl⟩⟩; refine ⟨_, rfl, ?_⟩))
  go_ret
  exact ⟨xr, xB1 GE346.out HB.out⟩

 subst c3
 rw [if_pos rfl] at H
 obtain ⟨t348, A4, H⟩ := xO H
 (try dsimp only at H)
 by_cases c5 : t348 = true
 rotate_left
 ·replace c5 := Bool.eq_false_iff.mpr c5
  subst c5
  rw [if_neg (show ¬ (false = true) by decide)] at H
  obtain rfl := Option.some.inj H
  go_enter Try.func345, Try.ntmps345
  go_wp2_with (first | (refine xg 1 rfl ?_; refine xV 1 #[.int .i64 a0_0, .int .i64 a0_1, .int .i64 a0_2, .int .i64 a0_3, .int .i64 a0_4, .bool a0_5] 91 ?_; intro gb346 hg w18 hbox hb; have BK346 := xA (hbox); have GW346 := xgw hg (below_size (xB HB.out)); have GE346 := GW346; replace HB := xA (below_step (xB HB.out) hb); clear hb hbox hg; replace hz346 := blk_cell BK346.out; replace hy346 := blk_frozen BK346.out) | (refine xG (some 5) Try.func230 #[.int .i64 a0_0, .int .i64 (-1024), .int .i64 1024] ?_; (with_reducible refine (spec_l1In.calls a0_0 (-1024) 1024 true _ A2.out).mono ?_); rintro e w' ⟨rfl, ⟨nd, rfl⟩⟩; refine ⟨_, rfl, ?_⟩) | (go_at_call 230; (with_reducible refine (spec_l1In.calls a0_1 (-1024) 1024 false _ A4.out).mono ?_); rintro e w' ⟨rfl, ⟨nd, rfl⟩⟩))
  go_ret
  exact ⟨xr, xB1 GE346.out HB.out⟩
 subst c5
 rw [if_pos rfl] at H
 obtain ⟨t349, A6, H⟩ := xO H
 (try dsimp only at H)
 by_cases c7 : t349 = true
 rotate_left
 ·replace c7 := Bool.eq_false_iff.mpr c7
  subst c7
  rw [if_neg (show ¬ (false = true) by decide)] at H
  obtain rfl := Option.some.inj H
  go_enter Try.func345, Try.ntmps345
  go_wp2_with (first | (refine xg 1 rfl ?_; refine xV 1 #[.int .i64 a0_0, .int .i64 a0_1, .int .i64 a0_2, .int .i64 a0_3, .int .i64 a0_4, .bool a0_5] 91 ?_; intro gb346 hg w16 hbox hb; have BK346 := xA (hbox); have GW346 := xgw hg (below_size (xB HB.out)); have GE346 := GW346; replace HB := xA (below_step (xB HB.out) hb); clear hb hbox hg; obtain ⟨hcz17_0, hcz17_1, hcz17_2, hcz17_3, hcz17_4, hcz17_5, hfz17_0, hfz17_1, hfz17_2, hfz17_3, hfz17_4, hfz17_5⟩ := xZ6 BK346.out) | (refine xG (some 5) Try.func230 #[.int .i64 a0_0, .int .i64 (-1024), .int .i64 1024] ?_; (with_reducible refine (spec_l1In.calls a0_0 (-1024) 1024 true _ A2.out).mono ?_); rintro e w' ⟨rfl, ⟨nd, rfl⟩⟩; refine ⟨_, rfl, ?_⟩) | (go_at_call 230; (with_reducible refine (spec_l1In.calls a0_1 (-1024) 1024 true _ A4.out).mono ?_); rintro e w' ⟨rfl, ⟨nd, rfl⟩⟩) | (go_at_call 230; (with_reducible refine (spec_l1In.calls a0_2 0 10 false _ A6.out).mono ?_); rintro e w' ⟨rfl, ⟨nd, rfl⟩⟩))
  go_ret
  exact ⟨xr, xB1 GE346.out HB.out⟩
 subst c7
 rw [if_pos rfl] at H
 obtain ⟨t350, A8, H⟩ := xO H
 (try dsimp only at H)
 by_cases c9 : t350 = true
 rotate_left
 ·replace c9 := Bool.eq_false_iff.mpr c9
  subst c9
  rw [if_neg (show ¬ (false = true) by decide)] at H
  obtain rfl := Option.some.inj H
  go_enter Try.func345, Try.ntmps345
  go_wp2_with (first | (refine xg 1 rfl ?_; refine xV 1 #[.int .i64 a0_0, .int .i64 a0_1, .int .i64 a0_2, .int .i64 a0_3, .int .i64 a0_4, .bool a0_5] 91 ?_; intro gb346 hg w14 hbox hb; have BK346 := xA (hbox); have GW346 := xgw hg (below_size (xB HB.out)); have GE346 := GW346; replace HB := xA (below_step (xB HB.out) hb); clear hb hbox hg; obtain ⟨hcz15_0, hcz15_1, hcz15_2, hcz15_3, hcz15_4, hcz15_5, hfz15_0, hfz15_1, hfz15_2, hfz15_3, hfz15_4, hfz15_5⟩ := xZ6 BK346.out) | (refine xG (some 5) Try.func230 #[.int .i64 a0_0, .int .i64 (-1024), .int .i64 1024] ?_; (with_reducible refine (spec_l1In.calls a0_0 (-1024) 1024 true _ A2.out).mono ?_); rintro e w' ⟨rfl, ⟨nd, rfl⟩⟩; refine ⟨_, rfl, ?_⟩) | (go_at_call 230; (with_reducible refine (spec_l1In.calls a0_1 (-1024) 1024 true _ A4.out).mono ?_); rintro e w' ⟨rfl, ⟨nd, rfl⟩⟩) | (go_at_call 230; (with_reducible refine (spec_l1In.calls a0_2 0 10 true _ A6.out).mono ?_); rintro e w' ⟨rfl, ⟨nd, rfl⟩⟩) | (go_at_call 366; (with_reducible refine (spec_wdMode.calls a0_2 a0_3 false _ A8.out).mono ?_); rintro e w' ⟨rfl, ⟨nd, rfl⟩⟩))
  go_ret
  exact ⟨xr, xB1 GE346.out HB.out⟩
 subst c9
 rw [if_pos rfl] at H
 obtain ⟨t351, A10, H⟩ := xO H
 (try dsimp only at H)
 obtain rfl := Option.some.inj H
 go_enter Try.func345, Try.ntmps345
 go_wp2_with (first | (refine xg 1 rfl ?_; refine xV 1 #[.int .i64 a0_0, .int .i64 a0_1, .int .i64 a0_2, .int .i64 a0_3, .int .i64 a0_4, .bool a0_5] 91 ?_; intro gb346 hg w11 hbox hb; have BK346 := xA (hbox); have GW346 := xgw hg (below_size (xB HB.out)); have GE346 := GW346; replace HB := xA (below_step (xB HB.out) hb); clear hb hbox hg; replace hz346 := blk_cell BK346.out; replace hy346 := blk_frozen BK346.out) | (refine xG (some 5) Try.func230 #[.int .i64 a0_0, .int .i64 (-1024), .int .i64 1024] ?_; (with_reducible refine (spec_l1In.calls a0_0 (-1024) 1024 true _ A2.out).mono ?_); rintro e w' ⟨rfl, ⟨nd, rfl⟩⟩; refine ⟨_, rfl, ?_⟩) | (go_at_call 230; (with_reducible refine (spec_l1In.calls a0_1 (-1024) 1024 true _ A4.out).mono ?_); rintro e w' ⟨rfl, ⟨nd, rfl⟩⟩) | (go_at_call 230; (with_reducible refine (spec_l1In.calls a0_2 0 10 true _ A6.out).mono ?_); rintro e w' ⟨rfl, ⟨nd, rfl⟩⟩) | (go_at_call 366; (with_reducible refine (spec_wdMode.calls a0_2 a0_3 true _ A8.out).mono ?_); rintro e w' ⟨rfl, ⟨nd, rfl⟩⟩) | (go_at_call 267; (with_reducible refine (spec_wdGood.calls a0_4 a0_5 t351 _ A10.out).mono ?_); rintro e w13 ⟨rfl, hb⟩; replace BK346 := xkb BK346 hb; replace HB := xA (below_step (xB1 GE346.out HB.out) hb); (try clear hb)))
 go_ret
 exact ⟨xr, xB1 GE346.out HB.out⟩
/-! ### spec_sdAsked: function 338 -/
def spec_sdAsked.f (a0_0 : Int) (a0_1 : Int) (a0_2 : Int) (a0_3 : Int) (a0_4 : Int) (a0_5 : Bool) (a1 : Int) (a2 : Int) (a3 : Int) : Option (Bool) := (spec_sdGood.f a0_0 a0_1 a0_2 a0_3 a0_4 a0_5).bind fun t353 => (if t353 = true then ((spec_wdIn.f a0_4 a0_5 a1).bind fun t354 => (if t354 = true then ((spec_wdIn.f a0_4 a0_5 a2).bind fun t355 => (if t355 = true then ((spec_l1In.f a3 (-100000) 100000).bind fun t356 => (some t356)) else (some false))) else (some false))) else (some false))
set_option maxHeartbeats 200000000 in
set_option maxRecDepth 100000 in
theorem spec_sdAsked.calls (a0_0 : Int) (a0_1 : Int) (a0_2 : Int) (a0_3 : Int) (a0_4 : Int) (a0_5 : Bool) (a1 : Int) (a2 : Int) (a3 : Int) (r : Bool) (w : World) (h : spec_sdAsked.f a0_0 a0_1 a0_2 a0_3 a0_4 a0_5 a1 a2 a3 = some r) :
  Calls Try.prog 338 #[.agg #[.int .i64 a0_0, .int .i64 a0_1, .int .i64 a0_2, .int .i64 a0_3, .int .i64 a0_4, .bool a0_5], .int .i64 a1, .int .i64 a2, .int .i64 a3] w fun e w' => e = .returned (.bool r) ∧ Below w.heap.size w w' := by
 have hu91 := Try.underlying91
 have hu46 := Try.underlying46
 have HB := xA (Below.refl w.heap.size w)
 have H : ((spec_sdGood.f a0_0 a0_1 a0_2 a0_3 a0_4 a0_5).bind fun t353 => (if t353 = true then ((spec_wdIn.f a0_4 a0_5 a1).bind fun t354 => (if t354 = true then ((spec_wdIn.f a0_4 a0_5 a2).bind fun t355 => (if t355 = true then ((spec_l1In.f a3 (-100000) 100000).bind fun t356 => (some t356)) else (some false))) else (some false))) else (some false))) = some r := h
 clear h
 obtain ⟨t353, A5, H⟩ := xO H
 (try dsimp only at H)
 by_cases c6 : t353 = true
 rotate_left
 ·replace c6 := Bool.eq_false_iff.mpr c6
  subst c6
  rw [if_neg (show ¬ (false = true) by decide)] at H
  obtain rfl := Option.some.inj H
  go_enter Try.func338, Try.ntmps338
  go_wp2_with (first | (refine xg 4 rfl ?_; refine xV 4 #[.int .i64 a0_0, .int .i64 a0_1, .int .i64 a0_2, .int .i64 a0_3, .int .i64 a0_4, .bool a0_5] 91 ?_; intro gb352 hg w31 hbox hb; have BK352 := xA (hbox); have GW352 := xgw hg (below_size (xB HB.out)); have GE352 := GW352; replace HB := xA (below_step (xB HB.out) hb); clear hb hbox hg; replace hz352 := blk_cell BK352.out; replace hy352 := blk_frozen BK352.out) | (refine xG (some 10) Try.func345 #[.agg #[.int .i64 a0_0, .int .i64 a0_1, .int .i64 a0_2, .int .i64 a0_3, .int .i64 a0_4, .bool a0_5]] ?_; (with_reducible refine (spec_sdGood.calls a0_0 a0_1 a0_2 a0_3 a0_4 a0_5 false _ A5.out).mono ?_); rintro e w33 ⟨rfl, hb⟩; refine ⟨_, rfl, ?_⟩; replace BK352 := xkb BK352 hb; replace HB := xA (below_step (xB1 GE352.out HB.out) hb); (try clear hb)))
  go_ret
  exact ⟨xr, xB1 GE352.out HB.out⟩

 subst c6
 rw [if_pos rfl] at H
 obtain ⟨t354, A7, H⟩ := xO H
 (try dsimp only at H)
 by_cases c8 : t354 = true
 rotate_left
 ·replace c8 := Bool.eq_false_iff.mpr c8
  subst c8
  rw [if_neg (show ¬ (false = true) by decide)] at H
  obtain rfl := Option.some.inj H
  go_enter Try.func338, Try.ntmps338
  go_wp2_with (first | (refine xg 4 rfl ?_; refine xV 4 #[.int .i64 a0_0, .int .i64 a0_1, .int .i64 a0_2, .int .i64 a0_3, .int .i64 a0_4, .bool a0_5] 91 ?_; intro gb352 hg w26 hbox hb; have BK352 := xA (hbox); have GW352 := xgw hg (below_size (xB HB.out)); have GE352 := GW352; replace HB := xA (below_step (xB HB.out) hb); clear hb hbox hg; replace hz352 := blk_cell BK352.out; replace hy352 := blk_frozen BK352.out) | (refine xG (some 10) Try.func345 #[.agg #[.int .i64 a0_0, .int .i64 a0_1, .int .i64 a0_2, .int .i64 a0_3, .int .i64 a0_4, .bool a0_5]] ?_; (with_reducible refine (spec_sdGood.calls a0_0 a0_1 a0_2 a0_3 a0_4 a0_5 true _ A5.out).mono ?_); rintro e w28 ⟨rfl, hb⟩; refine ⟨_, rfl, ?_⟩; replace BK352 := xkb BK352 hb; replace HB := xA (below_step (xB1 GE352.out HB.out) hb); (try clear hb); replace hz352 := blk_cell BK352.out; replace hy352 := blk_frozen BK352.out) | (go_at_call 314; (with_reducible refine (spec_wdIn.calls a0_4 a0_5 a1 false _ A7.out).mono ?_); rintro e w30 ⟨rfl, hb⟩; replace BK352 := xkb BK352 hb; replace HB := xA (below_step (xB1 GE352.out HB.out) hb); (try clear hb)))
  go_ret
  exact ⟨xr, xB1 GE352.out HB.out⟩
 subst c8
 rw [if_pos rfl] at H
 obtain ⟨t355, A9, H⟩ := xO H
 (try dsimp only at H)
 by_cases c10 : t355 = true
 rotate_left
 ·replace c10 := Bool.eq_false_iff.mpr c10
  subst c10
  rw [if_neg (show ¬ (false = true) by decide)] at H
  obtain rfl := Option.some.inj H
  go_enter Try.func338, Try.ntmps338
  go_wp2_with (first | (refine xg 4 rfl ?_; refine xV 4 #[.int .i64 a0_0, .int .i64 a0_1, .int .i64 a0_2, .int .i64 a0_3, .int .i64 a0_4, .bool a0_5] 91 ?_; intro gb352 hg w19 hbox hb; have BK352 := xA (hbox); have GW352 := xgw hg (below_size (xB HB.out)); have GE352 := GW352; replace HB := xA (below_step (xB HB.out) hb); clear hb hbox hg; obtain ⟨hcz20_0, hcz20_1, hcz20_2, hcz20_3, hcz20_4, hcz20_5, hfz20_0, hfz20_1, hfz20_2, hfz20_3, hfz20_4, hfz20_5⟩ := xZ6 BK352.out) | (refine xG (some 10) Try.func345 #[.agg #[.int .i64 a0_0, .int .i64 a0_1, .int .i64 a0_2, .int .i64 a0_3, .int .i64 a0_4, .bool a0_5]] ?_; (with_reducible refine (spec_sdGood.calls a0_0 a0_1 a0_2 a0_3 a0_4 a0_5 true _ A5.out).mono ?_); rintro e w21 ⟨rfl, hb⟩; refine ⟨_, rfl, ?_⟩; replace BK352 := xkb BK352 hb; replace HB := xA (below_step (xB1 GE352.out HB.out) hb); (try clear hb); replace hz352 := blk_cell BK352.out; replace hy352 := blk_frozen BK352.out) | (go_at_call 314; (with_reducible refine (spec_wdIn.calls a0_4 a0_5 a1 true _ A7.out).mono ?_); rintro e w23 ⟨rfl, hb⟩; replace BK352 := xkb BK352 hb; replace HB := xA (below_step (xB1 GE352.out HB.out) hb); (try clear hb); replace hz352 := blk_cell BK352.out; replace hy352 := blk_frozen BK352.out) | (go_at_call 314; (with_reducible refine (spec_wdIn.calls a0_4 a0_5 a2 false _ A9.out).mono ?_); rintro e w25 ⟨rfl, hb⟩; replace BK352 := xkb BK352 hb; replace HB := xA (below_step (xB1 GE352.out HB.out) hb); (try clear hb)))
  go_ret
  exact ⟨xr, xB1 GE352.out HB.out⟩
 subst c10
 rw [if_pos rfl] at H
 obtain ⟨t356, A11, H⟩ := xO H
 (try dsimp only at H)
 obtain rfl := Option.some.inj H
 go_enter Try.func338, Try.ntmps338
 go_wp2_with (first | (refine xg 4 rfl ?_; refine xV 4 #[.int .i64 a0_0, .int .i64 a0_1, .int .i64 a0_2, .int .i64 a0_3, .int .i64 a0_4, .bool a0_5] 91 ?_; intro gb352 hg w12 hbox hb; have BK352 := xA (hbox); have GW352 := xgw hg (below_size (xB HB.out)); have GE352 := GW352; replace HB := xA (below_step (xB HB.out) hb); clear hb hbox hg; obtain ⟨hcz13_0, hcz13_1, hcz13_2, hcz13_3, hcz13_4, hcz13_5, hfz13_0, hfz13_1, hfz13_2, hfz13_3, hfz13_4, hfz13_5⟩ := xZ6 BK352.out) | (refine xG (some 10) Try.func345 #[.agg #[.int .i64 a0_0, .int .i64 a0_1, .int .i64 a0_2, .int .i64 a0_3, .int .i64 a0_4, .bool a0_5]] ?_; (with_reducible refine (spec_sdGood.calls a0_0 a0_1 a0_2 a0_3 a0_4 a0_5 true _ A5.out).mono ?_); rintro e w14 ⟨rfl, hb⟩; refine ⟨_, rfl, ?_⟩; replace BK352 := xkb BK352 hb; replace HB := xA (below_step (xB1 GE352.out HB.out) hb); (try clear hb); obtain ⟨hcz15_0, hcz15_1, hcz15_2, hcz15_3, hcz15_4, hcz15_5, hfz15_0, hfz15_1, hfz15_2, hfz15_3, hfz15_4, hfz15_5⟩ := xZ6 BK352.out) | (go_at_call 314; (with_reducible refine (spec_wdIn.calls a0_4 a0_5 a1 true _ A7.out).mono ?_); rintro e w16 ⟨rfl, hb⟩; replace BK352 := xkb BK352 hb; replace HB := xA (below_step (xB1 GE352.out HB.out) hb); (try clear hb); obtain ⟨hcz17_0, hcz17_1, hcz17_2, hcz17_3, hcz17_4, hcz17_5, hfz17_0, hfz17_1, hfz17_2, hfz17_3, hfz17_4, hfz17_5⟩ := xZ6 BK352.out) | (go_at_call 314; (with_reducible refine (spec_wdIn.calls a0_4 a0_5 a2 true _ A9.out).mono ?_); rintro e w18 ⟨rfl, hb⟩; replace BK352 := xkb BK352 hb; replace HB := xA (below_step (xB1 GE352.out HB.out) hb); (try clear hb)) | (go_at_call 230; (with_reducible refine (spec_l1In.calls a3 (-100000) 100000 t356 _ A11.out).mono ?_); rintro e w' ⟨rfl, ⟨nd, rfl⟩⟩))
 go_ret
 exact ⟨xr, xB1 GE352.out HB.out⟩
/-! ### spec_l1Least: function 270 -/
def spec_l1Least.f (a0 : Int) (a1 : Int) : Option (Int) := if a0 < a1 then (some a0) else (some a1)
set_option maxHeartbeats 200000000 in
set_option maxRecDepth 100000 in
theorem spec_l1Least.calls (a0 : Int) (a1 : Int) (r : Int) (w : World) (h : spec_l1Least.f a0 a1 = some r) :
  Calls Try.prog 270 #[.int .i64 a0, .int .i64 a1] w fun e w' => e = .returned (.int .i64 r) ∧ Drawn0 w w' := by
 have H : (if a0 < a1 then (some a0) else (some a1)) = some r := h
 clear h
 by_cases c3 : a0 < a1
 ·rw [if_pos c3] at H
  have c3b0 : decide (a0 < a1) = true := decide_eq_true c3
  clear c3
  obtain rfl := Option.some.inj H
  go_enter Try.func270, Try.ntmps270
  go_wp2
  go_ret
  exact ⟨by first | rfl | (simp; done) | (simp [*]; done), by repeat (first | exact Drawn0.refl _ | apply Drawn0.step)⟩
 rw [if_neg c3] at H
 have c3b0 : decide (a0 < a1) = false := decide_eq_false c3
 clear c3
 obtain rfl := Option.some.inj H
 go_enter Try.func270, Try.ntmps270
 go_wp2
 go_ret
 exact ⟨by first | rfl | (simp; done) | (simp [*]; done), by repeat (first | exact Drawn0.refl _ | apply Drawn0.step)⟩

/-! ### spec_l1Most: function 271 -/
def spec_l1Most.f (a0 : Int) (a1 : Int) : Option (Int) := if a0 > a1 then (some a0) else (some a1)
set_option maxHeartbeats 200000000 in
set_option maxRecDepth 100000 in
theorem spec_l1Most.calls (a0 : Int) (a1 : Int) (r : Int) (w : World) (h : spec_l1Most.f a0 a1 = some r) :
  Calls Try.prog 271 #[.int .i64 a0, .int .i64 a1] w fun e w' => e = .returned (.int .i64 r) ∧ Drawn0 w w' := by
 have H : (if a0 > a1 then (some a0) else (some a1)) = some r := h
 clear h
 by_cases c3 : a0 > a1
 ·rw [if_pos c3] at H
  have c3b0 : decide (a1 < a0) = true := decide_eq_true c3
  clear c3
  obtain rfl := Option.some.inj H
  go_enter Try.func271, Try.ntmps271
  go_wp2
  go_ret
  exact ⟨by first | rfl | (simp; done) | (simp [*]; done), by repeat (first | exact Drawn0.refl _ | apply Drawn0.step)⟩
 rw [if_neg c3] at H
 have c3b0 : decide (a1 < a0) = false := decide_eq_false c3
 clear c3
 obtain rfl := Option.some.inj H
 go_enter Try.func271, Try.ntmps271
 go_wp2
 go_ret
 exact ⟨by first | rfl | (simp; done) | (simp [*]; done), by repeat (first | exact Drawn0.refl _ | apply Drawn0.step)⟩

/-! ### spec_wdFit: function 256 -/
def spec_wdFit.f (a0_0 : Int) (a0_1 : Bool) (a1 : Int) : Option (Int) := if a0_1 = true then (if 0 ≤ a0_0 then (if (shl .i64 1 a0_0) = 0 then (none) else ((spec_wdHigh.f a0_0 a0_1).bind fun t358 => (if (Int.tmod (wrap64 ((Int.tmod a1 (shl .i64 1 a0_0)) + (shl .i64 1 a0_0))) (shl .i64 1 a0_0)) > t358 then (some (wrap64 ((Int.tmod (wrap64 ((Int.tmod a1 (shl .i64 1 a0_0)) + (shl .i64 1 a0_0))) (shl .i64 1 a0_0)) - (shl .i64 1 a0_0)))) else (some (Int.tmod (wrap64 ((Int.tmod a1 (shl .i64 1 a0_0)) + (shl .i64 1 a0_0))) (shl .i64 1 a0_0)))))) else (none)) else ((spec_wdHigh.f a0_0 a0_1).bind fun t359 => ((spec_wdLow.f a0_0 a0_1).bind fun t360 => ((spec_l1Most.f t360 a1).bind fun t361 => ((spec_l1Least.f t359 t361).bind fun t362 => (some t362)))))
def spec_wdFit.T2 : Bool × List (List Nat × List Nat) := (true, [([], []), ([0], [0]), ([], []), ([2, 1], [2]), ([], []), ([3, 4, 3], [3, 4]), ([1, 5, 5], [1, 5]), ([6, 6, 0, 1, 2, 3, 4, 5, 6], [6])])
def spec_wdFit.B2 : List Nat := [0, 1, 0, 7, 0, 31, 63, 127]
theorem spec_wdFit.tab2 : rtab .any (opsOf Try.f256 2) = spec_wdFit.T2 := by kernel_rfl
theorem spec_wdFit.bits2 : waitsOk spec_wdFit.T2.2 spec_wdFit.B2 = true := by kernel_rfl
set_option maxHeartbeats 200000000 in
set_option maxRecDepth 100000 in
theorem spec_wdFit.calls (a0_0 : Int) (a0_1 : Bool) (a1 : Int) (r : Int) (w : World) (h : spec_wdFit.f a0_0 a0_1 a1 = some r) :
  Calls Try.prog 256 #[.agg #[.int .i64 a0_0, .bool a0_1], .int .i64 a1] w fun e w' => e = .returned (.int .i64 r) ∧ Below w.heap.size w w' := by
 have hu46 := Try.underlying46
 have HB := xA (Below.refl w.heap.size w)
 have H : (if a0_1 = true then (if 0 ≤ a0_0 then (if (shl .i64 1 a0_0) = 0 then (none) else ((spec_wdHigh.f a0_0 a0_1).bind fun t358 => (if (Int.tmod (wrap64 ((Int.tmod a1 (shl .i64 1 a0_0)) + (shl .i64 1 a0_0))) (shl .i64 1 a0_0)) > t358 then (some (wrap64 ((Int.tmod (wrap64 ((Int.tmod a1 (shl .i64 1 a0_0)) + (shl .i64 1 a0_0))) (shl .i64 1 a0_0)) - (shl .i64 1 a0_0)))) else (some (Int.tmod (wrap64 ((Int.tmod a1 (shl .i64 1 a0_0)) + (shl .i64 1 a0_0))) (shl .i64 1 a0_0)))))) else (none)) else ((spec_wdHigh.f a0_0 a0_1).bind fun t359 => ((spec_wdLow.f a0_0 a0_1).bind fun t360 => ((spec_l1Most.f t360 a1).bind fun t361 => ((spec_l1Least.f t359 t361).bind fun t362 => (some t362)))))) = some r := h
 clear h
 by_cases c3 : a0_1 = true
 ·subst c3
  rw [if_pos rfl] at H
  by_cases c4 : 0 ≤ a0_0
  rotate_left
  ·rw [if_neg c4] at H
   exact absurd H (by simp)
  rw [if_pos c4] at H
  have c4b0 := eq_true c4
  have c4b1 : decide (0 ≤ a0_0) = true := decide_eq_true c4
  clear c4
  obtain ⟨ji5, hji5⟩ : ∃ j_ : Int, (shl .i64 1 a0_0) = j_ := ⟨_, rfl⟩
  (first | rw [hji5] at H | simp only [hji5] at H)
  have hji5_ : (IntKind.i64.wrap (1 * 2 ^ min a0_0.toNat 64)) = ji5 := hji5
  have hji5z : a0_0 ≤ 64 → (IntKind.i64.wrap (1 * 2 ^ a0_0.toNat)) = ji5 := shl_small hji5
  have hji5u : (IntKind.i64.wrap (2 ^ min a0_0.toNat 64)) = ji5 := by have h_ := hji5_; rw [Int.one_mul] at h_; exact h_
  have hji5v : a0_0 ≤ 64 → (IntKind.i64.wrap (2 ^ a0_0.toNat)) = ji5 := fun hle_ => by have h_ := hji5z hle_; rw [Int.one_mul] at h_; exact h_
  have hji5y : (wrap64 (1 * 2 ^ min a0_0.toNat 64)) = ji5 := (i64_w _).symm.trans hji5_
  have hji5x : a0_0 ≤ 64 → (wrap64 (1 * 2 ^ a0_0.toNat)) = ji5 := fun h_ => (i64_w _).symm.trans (hji5z h_)
  by_cases c6 : (ji5) = 0
  ·rw [if_pos c6] at H
   exact absurd H (by simp)
  rw [if_neg c6] at H
  have c6b0 : ((ji5) == 0) = false := beq_eq_false_iff_ne.mpr c6
  have c6b1 : ((ji5) != 0) = true := bne_iff_ne.mpr c6
  obtain ⟨t358, A7, H⟩ := xO H
  (try dsimp only at H)
  by_cases c8 : (Int.tmod (wrap64 ((Int.tmod a1 (ji5)) + (ji5))) (ji5)) > t358
  rotate_left
  ·rw [if_neg c8] at H
   have c8b0 : decide (t358 < (Int.tmod (wrap64 ((Int.tmod a1 (ji5)) + (ji5))) (ji5))) = false := decide_eq_false c8
   clear c8
   obtain rfl := Option.some.inj H
   go_enter Try.func256, Try.ntmps256
   go_wp2_with (first | (refine xg 2 rfl ?_; refine xV 2 #[.int .i64 a0_0, .bool true] 46 ?_; intro gb357 hg w12 hbox hb; have BK357 := xA (hbox); have GW357 := xgw hg (below_size (xB HB.out)); have GE357 := GW357; replace HB := xA (below_step (xB HB.out) hb); clear hb hbox hg; obtain ⟨hcz13_0, hcz13_1, hfz13_0, hfz13_1⟩ := xZ2 BK357.out) | (refine xG (some 28) Try.func269 #[.agg #[.int .i64 a0_0, .bool true]] ?_; (with_reducible refine (spec_wdHigh.calls a0_0 true t358 _ A7.out).mono ?_); rintro e w14 ⟨rfl, hb⟩; refine ⟨_, rfl, ?_⟩; replace BK357 := xkb BK357 hb; replace HB := xA (below_step (xB1 GE357.out HB.out) hb); (try clear hb)))
   go_ret
   exact ⟨by first | rfl | (simp [errW_none, errW_some] <;> rfl) | (simp only [← hji5]; first | rfl | (simp [errW_none, errW_some] <;> rfl)) | (simp [*, errW_none, errW_some] <;> rfl), xB1 GE357.out HB.out⟩
  rw [if_pos c8] at H
  have c8b0 : decide (t358 < (Int.tmod (wrap64 ((Int.tmod a1 (ji5)) + (ji5))) (ji5))) = true := decide_eq_true c8
  clear c8
  obtain rfl := Option.some.inj H
  go_enter Try.func256, Try.ntmps256
  go_wp2_with (first | (refine xg 2 rfl ?_; refine xV 2 #[.int .i64 a0_0, .bool true] 46 ?_; intro gb357 hg w9 hbox hb; have BK357 := xA (hbox); have GW357 := xgw hg (below_size (xB HB.out)); have GE357 := GW357; replace HB := xA (below_step (xB HB.out) hb); clear hb hbox hg; replace hz357 := blk_cell BK357.out; replace hy357 := blk_frozen BK357.out) | (refine xG (some 28) Try.func269 #[.agg #[.int .i64 a0_0, .bool true]] ?_; (with_reducible refine (spec_wdHigh.calls a0_0 true t358 _ A7.out).mono ?_); rintro e w11 ⟨rfl, hb⟩; refine ⟨_, rfl, ?_⟩; replace BK357 := xkb BK357 hb; replace HB := xA (below_step (xB1 GE357.out HB.out) hb); (try clear hb)))
  go_ret
  exact ⟨by first | rfl | (simp [errW_none, errW_some] <;> rfl) | (simp only [← hji5]; first | rfl | (simp [errW_none, errW_some] <;> rfl)) | (simp [*, errW_none, errW_some] <;> rfl), xB1 GE357.out HB.out⟩
 replace c3 := Bool.eq_false_iff.mpr c3
 subst c3
 rw [if_neg (show ¬ (false = true) by decide)] at H
 obtain ⟨t359, A15, H⟩ := xO H
 (try dsimp only at H)
 obtain ⟨t360, A16, H⟩ := xO H
 (try dsimp only at H)
 obtain ⟨t361, A17, H⟩ := xO H
 (try dsimp only at H)
 obtain ⟨t362, A18, H⟩ := xO H
 (try dsimp only at H)
 obtain rfl := Option.some.inj H
 go_enter Try.func256, Try.ntmps256
 try go_wp2_with (first | (refine xg 2 rfl ?_; refine xV 2 #[.int .i64 a0_0, .bool false] 46 ?_; intro gb357 hg w19 hbox hb; have BK357 := xA (hbox); have GW357 := xgw hg (below_size (xB HB.out)); have GE357 := GW357; replace HB := xA (below_step (xB HB.out) hb); clear hb hbox hg; obtain ⟨hcz20_0, hcz20_1, hfz20_0, hfz20_1⟩ := xZ2 BK357.out))
 replace BK357 := xA (blk_drew BK357.out)
 replace HB := xA (below_drew1 HB.out)
 refine start_ (n := 8) (S := fun w' => w'.cell? ⟨gb357, 0, none⟩ = some (.int .i64 a0_0) ∧ w'.cell? ⟨gb357, 1, none⟩ = some (.bool false)) (ds := []) x7a13 (by kernel_rfl) rfl rfl ⟨(blk_cell BK357.out 0).trans rfl, (blk_cell BK357.out 1).trans rfl⟩ (fun hHeld => ?_); refine with_tabW spec_wdFit.tab2 spec_wdFit.bits2 (fun HT_ HW_ => ?_)
 generalize w19.drew = w21 at BK357 HB hHeld ⊢
 refine xP 4 13 x7a14 ?_
 refine xT2 hHeld 0 9 x7a15 ?_
 refine xT2 hHeld 2 11 x7a16 ?_
 refine xU 1 10 x7a17 (fun K hK => ?_)
 refine xY Try.func269 #[.agg #[.int .i64 a0_0, .bool false]] ?_
 with_reducible refine (spec_wdHigh.calls a0_0 false t359 _ A15.out).mono ?_
 rintro e w22 ⟨rfl, hb⟩
 refine ⟨_, rfl, ?_⟩
 replace BK357 := xkb BK357 hb
 replace HB := xA (below_step (xB1 GE357.out HB.out) hb)
 (try clear hb); (try clear hb2); (try clear hk); (try clear hi)
 refine hK.out _ _ ⟨(blk_cell BK357.out 0).trans rfl, (blk_cell BK357.out 1).trans rfl⟩ (fun hHeld => ?_)
 clear hK K
 refine xN ?_
 refine xU 3 12 x7a18 (fun K hK => ?_)
 refine xY Try.func268 #[.agg #[.int .i64 a0_0, .bool false]] ?_
 with_reducible refine (spec_wdLow.calls a0_0 false t360 _ A16.out).mono ?_
 rintro e w23 ⟨rfl, hb⟩
 refine ⟨_, rfl, ?_⟩
 replace BK357 := xkb BK357 hb
 replace HB := xA (below_step (xB1 GE357.out HB.out) hb)
 (try clear hb); (try clear hb2); (try clear hk); (try clear hi)
 refine hK.out _ _ ⟨(blk_cell BK357.out 0).trans rfl, (blk_cell BK357.out 1).trans rfl⟩ (fun hHeld => ?_)
 clear hK K
 refine xN ?_
 refine xU 5 14 x7a19 (fun K hK => ?_)
 refine xY Try.func271 #[.int .i64 t360, .int .i64 a1] ?_
 with_reducible refine (spec_l1Most.calls t360 a1 t361 _ A17.out).mono ?_
 rintro e w' ⟨rfl, ⟨nd, rfl⟩⟩
 refine ⟨_, rfl, ?_⟩
 refine hK.out _ _ ⟨(blk_cell BK357.out 0).trans rfl, (blk_cell BK357.out 1).trans rfl⟩ (fun hHeld => ?_)
 clear hK K
 refine xN ?_
 refine xU 6 15 x7a20 (fun K hK => ?_)
 refine xY Try.func270 #[.int .i64 t359, .int .i64 t361] ?_
 with_reducible refine (spec_l1Least.calls t359 t361 t362 _ A18.out).mono ?_
 rintro e w' ⟨rfl, ⟨nd, rfl⟩⟩
 refine ⟨_, rfl, ?_⟩
 refine hK.out _ _ ⟨(blk_cell BK357.out 0).trans rfl, (blk_cell BK357.out 1).trans rfl⟩ (fun hHeld => ?_)
 clear hK K
 refine xN ?_
 refine xP 7 4 x7a21 ?_
 refine xDn ?_
 try go_wp2
 go_ret
 exact ⟨xr, xB1 GE357.out HB.out⟩

end Go.Proofs.Ytjplcongellcmaa.PFnPairsRun
