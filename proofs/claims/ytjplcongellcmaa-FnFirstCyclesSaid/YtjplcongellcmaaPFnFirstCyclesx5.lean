/- What each Go function that the statement FnFirstCycles reaches answers, proved call by call. No condition beyond those that the theorems print. (Written by wip/tools/xprint.py of this repo, over the kit's print.) -/
import Derived.Test.YtjplcongellcmaaPFnFirstCyclesx0
import Derived.Test.YtjplcongellcmaaPFnFirstCyclesx4
namespace Go.Proofs.Ytjplcongellcmaa.PFnFirstCycles
open Go.RowKit Go.Proofs.YtjplcongellcmaaW.PrintWords Go.Proofs.YtjplcongellcmaaW.PrintLast Go.Proofs.YtjplcongellcmaaW.PrintMore
attribute [local go_sem] max2_int min2_int max_two min_two max_three min_three max_four min_four   -- for this text's walks alone
set_option linter.unusedVariables false
set_option linter.unusedSimpArgs false
def x5a0 : Array Bool := #[Zz,Zz,Zz,Zz,Zz,Zz,Zz,Zz,Zz,Zz,Zz]
def x5a1 : Array Bool := #[Yy,Zz,Zz,Zz,Zz,Zz,Zz,Zz,Zz,Zz,Zz]
def x5a2 : Array Bool := #[Yy,Yy,Zz,Zz,Zz,Zz,Zz,Zz,Zz,Zz,Zz]
def x5a3 : Array Bool := #[Yy,Yy,Yy,Zz,Zz,Zz,Zz,Zz,Zz,Zz,Zz]
def x5a4 : Array Bool := #[Yy,Yy,Yy,Yy,Zz,Zz,Zz,Zz,Zz,Zz,Zz]
def x5a5 : Array Bool := #[Yy,Yy,Yy,Yy,Yy,Zz,Zz,Zz,Zz,Zz,Zz]
def x5a6 : Array Bool := #[Yy,Yy,Yy,Yy,Yy,Yy,Zz,Zz,Zz,Zz,Zz]
def x5a7 : Array Bool := #[Yy,Yy,Yy,Yy,Yy,Yy,Yy,Zz,Zz,Zz,Zz]
def x5a8 : Array Bool := #[Yy,Yy,Yy,Yy,Yy,Yy,Yy,Yy,Zz,Zz,Zz]
def x5a9 : Array Bool := #[Yy,Yy,Yy,Yy,Yy,Yy,Yy,Yy,Yy,Zz,Zz]
def x5a10 : Array Bool := #[Yy,Yy,Yy,Yy,Yy,Yy,Yy,Yy,Yy,Yy,Zz]
def x5a11 : Array Bool := #[Yy,Yy,Yy,Yy,Yy,Yy,Yy,Yy,Yy,Yy,Yy]
def x5a12 : Array Bool := #[Yy,Yy,Yy,Yy,Yy,Zz,Yy,Zz,Zz,Zz,Zz]
def x5a13 : Array Bool := #[Zz,Zz,Zz,Zz,Zz,Zz,Zz,Zz]
def x5a14 : Array Bool := #[Zz,Zz,Zz,Zz,Yy,Zz,Zz,Zz]
def x5a15 : Array Bool := #[Yy,Zz,Zz,Zz,Yy,Zz,Zz,Zz]
def x5a16 : Array Bool := #[Yy,Zz,Yy,Zz,Yy,Zz,Zz,Zz]
def x5a17 : Array Bool := #[Yy,Yy,Yy,Zz,Yy,Zz,Zz,Zz]
def x5a18 : Array Bool := #[Yy,Yy,Yy,Yy,Yy,Zz,Zz,Zz]
def x5a19 : Array Bool := #[Yy,Yy,Yy,Yy,Yy,Yy,Zz,Zz]
def x5a20 : Array Bool := #[Yy,Yy,Yy,Yy,Yy,Yy,Yy,Zz]
def x5a21 : Array Bool := #[Yy,Yy,Yy,Yy,Yy,Yy,Yy,Yy]

/-! ### spec_wdIn: function 314 -/
def spec_wdIn.f (a0_0 : Int) (a0_1 : Bool) (a1 : Int) : Option (Bool) := (spec_wdGood.f a0_0 a0_1).bind fun t263 => (if t263 = true then ((spec_wdLow.f a0_0 a0_1).bind fun t264 => ((spec_wdHigh.f a0_0 a0_1).bind fun t265 => ((spec_l1In.f a1 t264 t265).bind fun t266 => (some t266)))) else (some false))
def spec_wdIn.T1 : Bool × List (List Nat × List Nat) := (true, [([], []), ([0], [0]), ([1, 1], [1]), ([2], [2]), ([2], [2]), ([4, 2, 2], [2, 4]), ([2], [2]), ([6, 5, 2], [2, 6]), ([3, 5, 7, 7, 2], [2, 3, 5, 7]), ([2, 8], [2, 8]), ([9, 8, 0, 1, 2, 3, 4, 5, 6, 7, 8, 9], [9])])
def spec_wdIn.B1 : List Nat := [0, 1, 3, 7, 7, 23, 7, 119, 255, 511, 1023]
theorem spec_wdIn.tab1 : rtab .any (opsOf Try.f314 1) = spec_wdIn.T1 := by kernel_rfl
theorem spec_wdIn.bits1 : waitsOk spec_wdIn.T1.2 spec_wdIn.B1 = true := by kernel_rfl
set_option maxHeartbeats 200000000 in
set_option maxRecDepth 100000 in
theorem spec_wdIn.calls (a0_0 : Int) (a0_1 : Bool) (a1 : Int) (r : Bool) (w : World) (h : spec_wdIn.f a0_0 a0_1 a1 = some r) :
  Calls Try.prog 314 #[.agg #[.int .i64 a0_0, .bool a0_1], .int .i64 a1] w fun e w' => e = .returned (.bool r) ∧ Below w.heap.size w w' := by
 have hu46 := Try.underlying46
 have HB := xA (Below.refl w.heap.size w)
 have H : ((spec_wdGood.f a0_0 a0_1).bind fun t263 => (if t263 = true then ((spec_wdLow.f a0_0 a0_1).bind fun t264 => ((spec_wdHigh.f a0_0 a0_1).bind fun t265 => ((spec_l1In.f a1 t264 t265).bind fun t266 => (some t266)))) else (some false))) = some r := h
 clear h
 obtain ⟨t263, A3, H⟩ := xO H
 (try dsimp only at H)
 by_cases c4 : t263 = true
 rotate_left
 ·replace c4 := Bool.eq_false_iff.mpr c4
  subst c4
  rw [if_neg (show ¬ (false = true) by decide)] at H
  obtain rfl := Option.some.inj H
  go_enter Try.func314, Try.ntmps314
  try go_wp2_with (first | (refine xg 2 rfl ?_; refine xV 2 #[.int .i64 a0_0, .bool a0_1] 46 ?_; intro gb262 hg w13 hbox hb; have BK262 := xA (hbox); have GW262 := xgw hg (below_size (xB HB.out)); have GE262 := GW262; replace HB := xA (below_step (xB HB.out) hb); clear hb hbox hg))
  replace BK262 := xA (blk_drew BK262.out)
  replace HB := xA (below_drew1 HB.out)
  refine start_ (n := 11) (S := fun w' => w'.cell? ⟨gb262, 0, none⟩ = some (.int .i64 a0_0) ∧ w'.cell? ⟨gb262, 1, none⟩ = some (.bool a0_1)) (ds := []) x5a0 (by kernel_rfl) rfl rfl ⟨(blk_cell BK262.out 0).trans rfl, (blk_cell BK262.out 1).trans rfl⟩ (fun hHeld => ?_); refine with_tabW spec_wdIn.tab1 spec_wdIn.bits1 (fun HT_ HW_ => ?_)
  generalize w13.drew = w14 at BK262 HB hHeld ⊢
  refine xT2 hHeld 0 5 x5a1 ?_
  refine xU 1 6 x5a2 (fun K hK => ?_)
  refine xY Try.func267 #[.agg #[.int .i64 a0_0, .bool a0_1]] ?_
  with_reducible refine (spec_wdGood.calls a0_0 a0_1 false _ A3.out).mono ?_
  rintro e w15 ⟨rfl, hb⟩
  refine ⟨_, rfl, ?_⟩
  replace BK262 := xkb BK262 hb
  replace HB := xA (below_step (xB1 GE262.out HB.out) hb)
  (try clear hb); (try clear hb2); (try clear hk); (try clear hi)
  refine hK.out _ _ ⟨(blk_cell BK262.out 0).trans rfl, (blk_cell BK262.out 1).trans rfl⟩ (fun hHeld => ?_)
  clear hK K
  refine xN ?_
  refine xP 2 7 x5a3 ?_
  refine pure_ (i := 3) (N := some 8) (v := undef) (a' := ?_) x5a4 rfl rfl (any_of HT_.out (by kernel_rfl)) (fun _ _ _ h => h) (Or.inr ⟨by rfl, rfl⟩) ?_ ?_
  rotate_left
  ·exact xE
  refine pure_ (i := 4) (N := some 9) (v := undef) (a' := ?_) x5a5 rfl rfl (any_of HT_.out (by kernel_rfl)) (fun _ _ _ h => h) (Or.inr ⟨by rfl, rfl⟩) ?_ ?_
  rotate_left
  ·exact xE
  refine pure_ (i := 5) (N := some 10) (v := undef) (a' := ?_) x5a6 rfl rfl (any_of HT_.out (by kernel_rfl)) (fun _ _ _ h => h) (Or.inr ⟨by rfl, rfl⟩) ?_ ?_
  rotate_left
  ·exact xE
  refine pure_ (i := 6) (N := some 11) (v := undef) (a' := ?_) x5a7 rfl rfl (any_of HT_.out (by kernel_rfl)) (fun _ _ _ h => h) (Or.inr ⟨by rfl, rfl⟩) ?_ ?_
  rotate_left
  ·exact xE
  refine pure_ (i := 7) (N := some 12) (v := undef) (a' := ?_) x5a8 rfl rfl (any_of HT_.out (by kernel_rfl)) (fun _ _ _ h => h) (Or.inr ⟨by rfl, rfl⟩) ?_ ?_
  rotate_left
  ·exact xE
  refine pure_ (i := 8) (N := some 13) (v := undef) (a' := ?_) x5a9 rfl rfl (any_of HT_.out (by kernel_rfl)) (fun _ _ _ h => h) (Or.inr ⟨by rfl, rfl⟩) ?_ ?_
  rotate_left
  ·exact xE
  refine xP 9 14 x5a10 ?_
  refine xP 10 4 x5a11 ?_
  refine xDn ?_
  try go_wp2
  go_ret
  exact ⟨xr, xB1 GE262.out HB.out⟩

 subst c4
 rw [if_pos rfl] at H
 obtain ⟨t264, A5, H⟩ := xO H
 (try dsimp only at H)
 obtain ⟨t265, A6, H⟩ := xO H
 (try dsimp only at H)
 obtain ⟨t266, A7, H⟩ := xO H
 (try dsimp only at H)
 obtain rfl := Option.some.inj H
 go_enter Try.func314, Try.ntmps314
 try go_wp2_with (first | (refine xg 2 rfl ?_; refine xV 2 #[.int .i64 a0_0, .bool a0_1] 46 ?_; intro gb262 hg w8 hbox hb; have BK262 := xA (hbox); have GW262 := xgw hg (below_size (xB HB.out)); have GE262 := GW262; replace HB := xA (below_step (xB HB.out) hb); clear hb hbox hg))
 replace BK262 := xA (blk_drew BK262.out)
 replace HB := xA (below_drew1 HB.out)
 refine start_ (n := 11) (S := fun w' => w'.cell? ⟨gb262, 0, none⟩ = some (.int .i64 a0_0) ∧ w'.cell? ⟨gb262, 1, none⟩ = some (.bool a0_1)) (ds := []) x5a0 (by kernel_rfl) rfl rfl ⟨(blk_cell BK262.out 0).trans rfl, (blk_cell BK262.out 1).trans rfl⟩ (fun hHeld => ?_); refine with_tabW spec_wdIn.tab1 spec_wdIn.bits1 (fun HT_ HW_ => ?_)
 generalize w8.drew = w9 at BK262 HB hHeld ⊢
 refine xT2 hHeld 0 5 x5a1 ?_
 refine xU 1 6 x5a2 (fun K hK => ?_)
 refine xY Try.func267 #[.agg #[.int .i64 a0_0, .bool a0_1]] ?_
 with_reducible refine (spec_wdGood.calls a0_0 a0_1 true _ A3.out).mono ?_
 rintro e w10 ⟨rfl, hb⟩
 refine ⟨_, rfl, ?_⟩
 replace BK262 := xkb BK262 hb
 replace HB := xA (below_step (xB1 GE262.out HB.out) hb)
 (try clear hb); (try clear hb2); (try clear hk); (try clear hi)
 refine hK.out _ _ ⟨(blk_cell BK262.out 0).trans rfl, (blk_cell BK262.out 1).trans rfl⟩ (fun hHeld => ?_)
 clear hK K
 refine xN ?_
 refine xP 2 7 x5a3 ?_
 refine xP 3 8 x5a4 ?_
 refine xT2 hHeld 4 9 x5a5 ?_
 refine xT2 hHeld 6 11 x5a12 ?_
 refine xU 5 10 x5a7 (fun K hK => ?_)
 refine xY Try.func268 #[.agg #[.int .i64 a0_0, .bool a0_1]] ?_
 with_reducible refine (spec_wdLow.calls a0_0 a0_1 t264 _ A5.out).mono ?_
 rintro e w11 ⟨rfl, hb⟩
 refine ⟨_, rfl, ?_⟩
 replace BK262 := xkb BK262 hb
 replace HB := xA (below_step (xB1 GE262.out HB.out) hb)
 (try clear hb); (try clear hb2); (try clear hk); (try clear hi)
 refine hK.out _ _ ⟨(blk_cell BK262.out 0).trans rfl, (blk_cell BK262.out 1).trans rfl⟩ (fun hHeld => ?_)
 clear hK K
 refine xN ?_
 refine xU 7 12 x5a8 (fun K hK => ?_)
 refine xY Try.func269 #[.agg #[.int .i64 a0_0, .bool a0_1]] ?_
 with_reducible refine (spec_wdHigh.calls a0_0 a0_1 t265 _ A6.out).mono ?_
 rintro e w12 ⟨rfl, hb⟩
 refine ⟨_, rfl, ?_⟩
 replace BK262 := xkb BK262 hb
 replace HB := xA (below_step (xB1 GE262.out HB.out) hb)
 (try clear hb); (try clear hb2); (try clear hk); (try clear hi)
 refine hK.out _ _ ⟨(blk_cell BK262.out 0).trans rfl, (blk_cell BK262.out 1).trans rfl⟩ (fun hHeld => ?_)
 clear hK K
 refine xN ?_
 refine xU 8 13 x5a9 (fun K hK => ?_)
 refine xY Try.func230 #[.int .i64 a1, .int .i64 t264, .int .i64 t265] ?_
 with_reducible refine (spec_l1In.calls a1 t264 t265 t266 _ A7.out).mono ?_
 rintro e w' ⟨rfl, ⟨nd, rfl⟩⟩
 refine ⟨_, rfl, ?_⟩
 refine hK.out _ _ ⟨(blk_cell BK262.out 0).trans rfl, (blk_cell BK262.out 1).trans rfl⟩ (fun hHeld => ?_)
 clear hK K
 refine xN ?_
 refine xP 9 14 x5a10 ?_
 refine xP 10 4 x5a11 ?_
 refine xDn ?_
 try go_wp2
 go_ret
 exact ⟨xr, xB1 GE262.out HB.out⟩
/-! ### spec_foAsked: function 285 -/
def spec_foAsked.f (a0_0 : Int) (a0_1 : Int) (a0_2 : Int) (a0_3 : Int) (a0_4 : Bool) (a1 : Int) (a2 : Int) : Option (Bool) := (spec_foGood.f a0_0 a0_1 a0_2 a0_3 a0_4).bind fun t268 => (if t268 = true then ((spec_wdIn.f a0_3 a0_4 a1).bind fun t269 => (if t269 = true then ((spec_l1In.f a2 (-100000) 100000).bind fun t270 => (some t270)) else (some false))) else (some false))
set_option maxHeartbeats 200000000 in
set_option maxRecDepth 100000 in
theorem spec_foAsked.calls (a0_0 : Int) (a0_1 : Int) (a0_2 : Int) (a0_3 : Int) (a0_4 : Bool) (a1 : Int) (a2 : Int) (r : Bool) (w : World) (h : spec_foAsked.f a0_0 a0_1 a0_2 a0_3 a0_4 a1 a2 = some r) :
  Calls Try.prog 285 #[.agg #[.int .i64 a0_0, .int .i64 a0_1, .int .i64 a0_2, .int .i64 a0_3, .bool a0_4], .int .i64 a1, .int .i64 a2] w fun e w' => e = .returned (.bool r) ∧ Below w.heap.size w w' := by
 have hu62 := Try.underlying62
 have hu46 := Try.underlying46
 have HB := xA (Below.refl w.heap.size w)
 have H : ((spec_foGood.f a0_0 a0_1 a0_2 a0_3 a0_4).bind fun t268 => (if t268 = true then ((spec_wdIn.f a0_3 a0_4 a1).bind fun t269 => (if t269 = true then ((spec_l1In.f a2 (-100000) 100000).bind fun t270 => (some t270)) else (some false))) else (some false))) = some r := h
 clear h
 obtain ⟨t268, A4, H⟩ := xO H
 (try dsimp only at H)
 by_cases c5 : t268 = true
 rotate_left
 ·replace c5 := Bool.eq_false_iff.mpr c5
  subst c5
  rw [if_neg (show ¬ (false = true) by decide)] at H
  obtain rfl := Option.some.inj H
  go_enter Try.func285, Try.ntmps285
  go_wp2_with (first | (refine xg 3 rfl ?_; refine xV 3 #[.int .i64 a0_0, .int .i64 a0_1, .int .i64 a0_2, .int .i64 a0_3, .bool a0_4] 62 ?_; intro gb267 hg w19 hbox hb; have BK267 := xA (hbox); have GW267 := xgw hg (below_size (xB HB.out)); have GE267 := GW267; replace HB := xA (below_step (xB HB.out) hb); clear hb hbox hg; obtain ⟨hcz20_0, hcz20_1, hcz20_2, hcz20_3, hcz20_4, hfz20_0, hfz20_1, hfz20_2, hfz20_3, hfz20_4⟩ := xZ5 BK267.out) | (refine xG (some 8) Try.func297 #[.agg #[.int .i64 a0_0, .int .i64 a0_1, .int .i64 a0_2, .int .i64 a0_3, .bool a0_4]] ?_; (with_reducible refine (spec_foGood.calls a0_0 a0_1 a0_2 a0_3 a0_4 false _ A4.out).mono ?_); rintro e w21 ⟨rfl, hb⟩; refine ⟨_, rfl, ?_⟩; replace BK267 := xkb BK267 hb; replace HB := xA (below_step (xB1 GE267.out HB.out) hb); (try clear hb)))
  go_ret
  exact ⟨xr, xB1 GE267.out HB.out⟩

 subst c5
 rw [if_pos rfl] at H
 obtain ⟨t269, A6, H⟩ := xO H
 (try dsimp only at H)
 by_cases c7 : t269 = true
 rotate_left
 ·replace c7 := Bool.eq_false_iff.mpr c7
  subst c7
  rw [if_neg (show ¬ (false = true) by decide)] at H
  obtain rfl := Option.some.inj H
  go_enter Try.func285, Try.ntmps285
  go_wp2_with (first | (refine xg 3 rfl ?_; refine xV 3 #[.int .i64 a0_0, .int .i64 a0_1, .int .i64 a0_2, .int .i64 a0_3, .bool a0_4] 62 ?_; intro gb267 hg w14 hbox hb; have BK267 := xA (hbox); have GW267 := xgw hg (below_size (xB HB.out)); have GE267 := GW267; replace HB := xA (below_step (xB HB.out) hb); clear hb hbox hg; replace hz267 := blk_cell BK267.out; replace hy267 := blk_frozen BK267.out) | (refine xG (some 8) Try.func297 #[.agg #[.int .i64 a0_0, .int .i64 a0_1, .int .i64 a0_2, .int .i64 a0_3, .bool a0_4]] ?_; (with_reducible refine (spec_foGood.calls a0_0 a0_1 a0_2 a0_3 a0_4 true _ A4.out).mono ?_); rintro e w16 ⟨rfl, hb⟩; refine ⟨_, rfl, ?_⟩; replace BK267 := xkb BK267 hb; replace HB := xA (below_step (xB1 GE267.out HB.out) hb); (try clear hb); replace hz267 := blk_cell BK267.out; replace hy267 := blk_frozen BK267.out) | (go_at_call 314; (with_reducible refine (spec_wdIn.calls a0_3 a0_4 a1 false _ A6.out).mono ?_); rintro e w18 ⟨rfl, hb⟩; replace BK267 := xkb BK267 hb; replace HB := xA (below_step (xB1 GE267.out HB.out) hb); (try clear hb)))
  go_ret
  exact ⟨xr, xB1 GE267.out HB.out⟩
 subst c7
 rw [if_pos rfl] at H
 obtain ⟨t270, A8, H⟩ := xO H
 (try dsimp only at H)
 obtain rfl := Option.some.inj H
 go_enter Try.func285, Try.ntmps285
 go_wp2_with (first | (refine xg 3 rfl ?_; refine xV 3 #[.int .i64 a0_0, .int .i64 a0_1, .int .i64 a0_2, .int .i64 a0_3, .bool a0_4] 62 ?_; intro gb267 hg w9 hbox hb; have BK267 := xA (hbox); have GW267 := xgw hg (below_size (xB HB.out)); have GE267 := GW267; replace HB := xA (below_step (xB HB.out) hb); clear hb hbox hg; obtain ⟨hcz10_0, hcz10_1, hcz10_2, hcz10_3, hcz10_4, hfz10_0, hfz10_1, hfz10_2, hfz10_3, hfz10_4⟩ := xZ5 BK267.out) | (refine xG (some 8) Try.func297 #[.agg #[.int .i64 a0_0, .int .i64 a0_1, .int .i64 a0_2, .int .i64 a0_3, .bool a0_4]] ?_; (with_reducible refine (spec_foGood.calls a0_0 a0_1 a0_2 a0_3 a0_4 true _ A4.out).mono ?_); rintro e w11 ⟨rfl, hb⟩; refine ⟨_, rfl, ?_⟩; replace BK267 := xkb BK267 hb; replace HB := xA (below_step (xB1 GE267.out HB.out) hb); (try clear hb); replace hz267 := blk_cell BK267.out; replace hy267 := blk_frozen BK267.out) | (go_at_call 314; (with_reducible refine (spec_wdIn.calls a0_3 a0_4 a1 true _ A6.out).mono ?_); rintro e w13 ⟨rfl, hb⟩; replace BK267 := xkb BK267 hb; replace HB := xA (below_step (xB1 GE267.out HB.out) hb); (try clear hb)) | (go_at_call 230; (with_reducible refine (spec_l1In.calls a2 (-100000) 100000 t270 _ A8.out).mono ?_); rintro e w' ⟨rfl, ⟨nd, rfl⟩⟩))
 go_ret
 exact ⟨xr, xB1 GE267.out HB.out⟩
/-! ### spec_foScan: function 306 -/
def spec_foScan.f (a0_0 : Int) (a0_1 : Int) (a0_2 : Int) (a0_3 : Int) (a0_4 : Bool) (a1 : Int) : Option (Bool) := (spec_foAsked.f a0_0 a0_1 a0_2 a0_3 a0_4 0 a1).bind fun t272 => (if t272 = true then (some (decide (a0_3 ≤ 10))) else (some false))
set_option maxHeartbeats 200000000 in
set_option maxRecDepth 100000 in
theorem spec_foScan.calls (a0_0 : Int) (a0_1 : Int) (a0_2 : Int) (a0_3 : Int) (a0_4 : Bool) (a1 : Int) (r : Bool) (w : World) (h : spec_foScan.f a0_0 a0_1 a0_2 a0_3 a0_4 a1 = some r) :
  Calls Try.prog 306 #[.agg #[.int .i64 a0_0, .int .i64 a0_1, .int .i64 a0_2, .int .i64 a0_3, .bool a0_4], .int .i64 a1] w fun e w' => e = .returned (.bool r) ∧ Below w.heap.size w w' := by
 have hu62 := Try.underlying62
 have HB := xA (Below.refl w.heap.size w)
 have H : ((spec_foAsked.f a0_0 a0_1 a0_2 a0_3 a0_4 0 a1).bind fun t272 => (if t272 = true then (some (decide (a0_3 ≤ 10))) else (some false))) = some r := h
 clear h
 obtain ⟨t272, A3, H⟩ := xO H
 (try dsimp only at H)
 by_cases c4 : t272 = true
 ·subst c4
  rw [if_pos rfl] at H
  obtain rfl := Option.some.inj H
  go_enter Try.func306, Try.ntmps306
  go_wp2_with (first | (refine xg 2 rfl ?_; refine xV 2 #[.int .i64 a0_0, .int .i64 a0_1, .int .i64 a0_2, .int .i64 a0_3, .bool a0_4] 62 ?_; intro gb271 hg w5 hbox hb; have BK271 := xA (hbox); have GW271 := xgw hg (below_size (xB HB.out)); have GE271 := GW271; replace HB := xA (below_step (xB HB.out) hb); clear hb hbox hg; replace hz271 := blk_cell BK271.out; replace hy271 := blk_frozen BK271.out) | (refine xG (some 7) Try.func285 #[.agg #[.int .i64 a0_0, .int .i64 a0_1, .int .i64 a0_2, .int .i64 a0_3, .bool a0_4], .int .i64 0, .int .i64 a1] ?_; (with_reducible refine (spec_foAsked.calls a0_0 a0_1 a0_2 a0_3 a0_4 0 a1 true _ A3.out).mono ?_); rintro e w7 ⟨rfl, hb⟩; refine ⟨_, rfl, ?_⟩; replace BK271 := xkb BK271 hb; replace HB := xA (below_step (xB1 GE271.out HB.out) hb); (try clear hb); replace hz271 := blk_cell BK271.out; replace hy271 := blk_frozen BK271.out))
  go_ret
  exact ⟨xr, xB1 GE271.out HB.out⟩
 replace c4 := Bool.eq_false_iff.mpr c4
 subst c4
 rw [if_neg (show ¬ (false = true) by decide)] at H
 obtain rfl := Option.some.inj H
 go_enter Try.func306, Try.ntmps306
 go_wp2_with (first | (refine xg 2 rfl ?_; refine xV 2 #[.int .i64 a0_0, .int .i64 a0_1, .int .i64 a0_2, .int .i64 a0_3, .bool a0_4] 62 ?_; intro gb271 hg w9 hbox hb; have BK271 := xA (hbox); have GW271 := xgw hg (below_size (xB HB.out)); have GE271 := GW271; replace HB := xA (below_step (xB HB.out) hb); clear hb hbox hg; obtain ⟨hcz10_0, hcz10_1, hcz10_2, hcz10_3, hcz10_4, hfz10_0, hfz10_1, hfz10_2, hfz10_3, hfz10_4⟩ := xZ5 BK271.out) | (refine xG (some 7) Try.func285 #[.agg #[.int .i64 a0_0, .int .i64 a0_1, .int .i64 a0_2, .int .i64 a0_3, .bool a0_4], .int .i64 0, .int .i64 a1] ?_; (with_reducible refine (spec_foAsked.calls a0_0 a0_1 a0_2 a0_3 a0_4 0 a1 false _ A3.out).mono ?_); rintro e w11 ⟨rfl, hb⟩; refine ⟨_, rfl, ?_⟩; replace BK271 := xkb BK271 hb; replace HB := xA (below_step (xB1 GE271.out HB.out) hb); (try clear hb)))
 go_ret
 exact ⟨xr, xB1 GE271.out HB.out⟩

/-! ### spec_l1Least: function 270 -/
def spec_l1Least.f (a0 : Int) (a1 : Int) : Option (Int) := if a0 < a1 then (some a0) else (some a1)
set_option maxHeartbeats 200000000 in
set_option maxRecDepth 100000 in
theorem spec_l1Least.calls (a0 : Int) (a1 : Int) (r : Int) (w : World) (h : spec_l1Least.f a0 a1 = some r) :
  Calls Try.prog 270 #[.int .i64 a0, .int .i64 a1] w fun e w' => e = .returned (.int .i64 r) ∧ Drawn0 w w' := by
 have H : (if a0 < a1 then (some a0) else (some a1)) = some r := h
 clear h
 by_cases c3 : a0 < a1
 ·rw [if_pos c3] at H
  have c3b0 : decide (a0 < a1) = true := decide_eq_true c3
  clear c3
  obtain rfl := Option.some.inj H
  go_enter Try.func270, Try.ntmps270
  go_wp2
  go_ret
  exact ⟨by first | rfl | (simp; done) | (simp [*]; done), by repeat (first | exact Drawn0.refl _ | apply Drawn0.step)⟩
 rw [if_neg c3] at H
 have c3b0 : decide (a0 < a1) = false := decide_eq_false c3
 clear c3
 obtain rfl := Option.some.inj H
 go_enter Try.func270, Try.ntmps270
 go_wp2
 go_ret
 exact ⟨by first | rfl | (simp; done) | (simp [*]; done), by repeat (first | exact Drawn0.refl _ | apply Drawn0.step)⟩

/-! ### spec_l1Most: function 271 -/
def spec_l1Most.f (a0 : Int) (a1 : Int) : Option (Int) := if a0 > a1 then (some a0) else (some a1)
set_option maxHeartbeats 200000000 in
set_option maxRecDepth 100000 in
theorem spec_l1Most.calls (a0 : Int) (a1 : Int) (r : Int) (w : World) (h : spec_l1Most.f a0 a1 = some r) :
  Calls Try.prog 271 #[.int .i64 a0, .int .i64 a1] w fun e w' => e = .returned (.int .i64 r) ∧ Drawn0 w w' := by
 have H : (if a0 > a1 then (some a0) else (some a1)) = some r := h
 clear h
 by_cases c3 : a0 > a1
 ·rw [if_pos c3] at H
  have c3b0 : decide (a1 < a0) = true := decide_eq_true c3
  clear c3
  obtain rfl := Option.some.inj H
  go_enter Try.func271, Try.ntmps271
  go_wp2
  go_ret
  exact ⟨by first | rfl | (simp; done) | (simp [*]; done), by repeat (first | exact Drawn0.refl _ | apply Drawn0.step)⟩
 rw [if_neg c3] at H
 have c3b0 : decide (a1 < a0) = false := decide_eq_false c3
 clear c3
 obtain rfl := Option.some.inj H
 go_enter Try.func271, Try.ntmps271
 go_wp2
 go_ret
 exact ⟨by first | rfl | (simp; done) | (simp [*]; done), by repeat (first | exact Drawn0.refl _ | apply Drawn0.step)⟩

/-! ### spec_wdFit: function 256 -/
def spec_wdFit.f (a0_0 : Int) (a0_1 : Bool) (a1 : Int) : Option (Int) := if a0_1 = true then (if 0 ≤ a0_0 then (if (shl .i64 1 a0_0) = 0 then (none) else ((spec_wdHigh.f a0_0 a0_1).bind fun t274 => (if (Int.tmod (wrap64 ((Int.tmod a1 (shl .i64 1 a0_0)) + (shl .i64 1 a0_0))) (shl .i64 1 a0_0)) > t274 then (some (wrap64 ((Int.tmod (wrap64 ((Int.tmod a1 (shl .i64 1 a0_0)) + (shl .i64 1 a0_0))) (shl .i64 1 a0_0)) - (shl .i64 1 a0_0)))) else (some (Int.tmod (wrap64 ((Int.tmod a1 (shl .i64 1 a0_0)) + (shl .i64 1 a0_0))) (shl .i64 1 a0_0)))))) else (none)) else ((spec_wdHigh.f a0_0 a0_1).bind fun t275 => ((spec_wdLow.f a0_0 a0_1).bind fun t276 => ((spec_l1Most.f t276 a1).bind fun t277 => ((spec_l1Least.f t275 t277).bind fun t278 => (some t278)))))
def spec_wdFit.T2 : Bool × List (List Nat × List Nat) := (true, [([], []), ([0], [0]), ([], []), ([2, 1], [2]), ([], []), ([3, 4, 3], [3, 4]), ([1, 5, 5], [1, 5]), ([6, 6, 0, 1, 2, 3, 4, 5, 6], [6])])
def spec_wdFit.B2 : List Nat := [0, 1, 0, 7, 0, 31, 63, 127]
theorem spec_wdFit.tab2 : rtab .any (opsOf Try.f256 2) = spec_wdFit.T2 := by kernel_rfl
theorem spec_wdFit.bits2 : waitsOk spec_wdFit.T2.2 spec_wdFit.B2 = true := by kernel_rfl
set_option maxHeartbeats 200000000 in
set_option maxRecDepth 100000 in
theorem spec_wdFit.calls (a0_0 : Int) (a0_1 : Bool) (a1 : Int) (r : Int) (w : World) (h : spec_wdFit.f a0_0 a0_1 a1 = some r) :
  Calls Try.prog 256 #[.agg #[.int .i64 a0_0, .bool a0_1], .int .i64 a1] w fun e w' => e = .returned (.int .i64 r) ∧ Below w.heap.size w w' := by
 have hu46 := Try.underlying46
 have HB := xA (Below.refl w.heap.size w)
 have H : (if a0_1 = true then (if 0 ≤ a0_0 then (if (shl .i64 1 a0_0) = 0 then (none) else ((spec_wdHigh.f a0_0 a0_1).bind fun t274 => (if (Int.tmod (wrap64 ((Int.tmod a1 (shl .i64 1 a0_0)) + (shl .i64 1 a0_0))) (shl .i64 1 a0_0)) > t274 then (some (wrap64 ((Int.tmod (wrap64 ((Int.tmod a1 (shl .i64 1 a0_0)) + (shl .i64 1 a0_0))) (shl .i64 1 a0_0)) - (shl .i64 1 a0_0)))) else (some (Int.tmod (wrap64 ((Int.tmod a1 (shl .i64 1 a0_0)) + (shl .i64 1 a0_0))) (shl .i64 1 a0_0)))))) else (none)) else ((spec_wdHigh.f a0_0 a0_1).bind fun t275 => ((spec_wdLow.f a0_0 a0_1).bind fun t276 => ((spec_l1Most.f t276 a1).bind fun t277 => ((spec_l1Least.f t275 t277).bind fun t278 => (some t278)))))) = some r := h
 clear h
 by_cases c3 : a0_1 = true
 ·subst c3
  rw [if_pos rfl] at H
  by_cases c4 : 0 ≤ a0_0
  rotate_left
  ·rw [if_neg c4] at H
   exact absurd H (by simp)
  rw [if_pos c4] at H
  have c4b0 := eq_true c4
  have c4b1 : decide (0 ≤ a0_0) = true := decide_eq_true c4
  clear c4
  obtain ⟨ji5, hji5⟩ : ∃ j_ : Int, (shl .i64 1 a0_0) = j_ := ⟨_, rfl⟩
  (first | rw [hji5] at H | simp only [hji5] at H)
  have hji5_ : (IntKind.i64.wrap (1 * 2 ^ min a0_0.toNat 64)) = ji5 := hji5
  have hji5z : a0_0 ≤ 64 → (IntKind.i64.wrap (1 * 2 ^ a0_0.toNat)) = ji5 := shl_small hji5
  have hji5u : (IntKind.i64.wrap (2 ^ min a0_0.toNat 64)) = ji5 := by have h_ := hji5_; rw [Int.one_mul] at h_; exact h_
  have hji5v : a0_0 ≤ 64 → (IntKind.i64.wrap (2 ^ a0_0.toNat)) = ji5 := fun hle_ => by have h_ := hji5z hle_; rw [Int.one_mul] at h_; exact h_
  have hji5y : (wrap64 (1 * 2 ^ min a0_0.toNat 64)) = ji5 := (i64_w _).symm.trans hji5_
  have hji5x : a0_0 ≤ 64 → (wrap64 (1 * 2 ^ a0_0.toNat)) = ji5 := fun h_ => (i64_w _).symm.trans (hji5z h_)
  by_cases c6 : (ji5) = 0
  ·rw [if_pos c6] at H
   exact absurd H (by simp)
  rw [if_neg c6] at H
  have c6b0 : ((ji5) == 0) = false := beq_eq_false_iff_ne.mpr c6
  have c6b1 : ((ji5) != 0) = true := bne_iff_ne.mpr c6
  obtain ⟨t274, A7, H⟩ := xO H
  (try dsimp only at H)
  by_cases c8 : (Int.tmod (wrap64 ((Int.tmod a1 (ji5)) + (ji5))) (ji5)) > t274
  rotate_left
  ·rw [if_neg c8] at H
   have c8b0 : decide (t274 < (Int.tmod (wrap64 ((Int.tmod a1 (ji5)) + (ji5))) (ji5))) = false := decide_eq_false c8
   clear c8
   obtain rfl := Option.some.inj H
   go_enter Try.func256, Try.ntmps256
   go_wp2_with (first | (refine xg 2 rfl ?_; refine xV 2 #[.int .i64 a0_0, .bool true] 46 ?_; intro gb273 hg w12 hbox hb; have BK273 := xA (hbox); have GW273 := xgw hg (below_size (xB HB.out)); have GE273 := GW273; replace HB := xA (below_step (xB HB.out) hb); clear hb hbox hg; replace hz273 := blk_cell BK273.out; replace hy273 := blk_frozen BK273.out) | (refine xG (some 28) Try.func269 #[.agg #[.int .i64 a0_0, .bool true]] ?_; (with_reducible refine (spec_wdHigh.calls a0_0 true t274 _ A7.out).mono ?_); rintro e w14 ⟨rfl, hb⟩; refine ⟨_, rfl, ?_⟩; replace BK273 := xkb BK273 hb; replace HB := xA (below_step (xB1 GE273.out HB.out) hb); (try clear hb)))
   go_ret
   exact ⟨by first | rfl | (simp [errW_none, errW_some] <;> rfl) | (simp only [← hji5]; first | rfl | (simp [errW_none, errW_some] <;> rfl)) | (simp [*, errW_none, errW_some] <;> rfl), xB1 GE273.out HB.out⟩
  rw [if_pos c8] at H
  have c8b0 : decide (t274 < (Int.tmod (wrap64 ((Int.tmod a1 (ji5)) + (ji5))) (ji5))) = true := decide_eq_true c8
  clear c8
  obtain rfl := Option.some.inj H
  go_enter Try.func256, Try.ntmps256
  go_wp2_with (first | (refine xg 2 rfl ?_; refine xV 2 #[.int .i64 a0_0, .bool true] 46 ?_; intro gb273 hg w9 hbox hb; have BK273 := xA (hbox); have GW273 := xgw hg (below_size (xB HB.out)); have GE273 := GW273; replace HB := xA (below_step (xB HB.out) hb); clear hb hbox hg; obtain ⟨hcz10_0, hcz10_1, hfz10_0, hfz10_1⟩ := xZ2 BK273.out) | (refine xG (some 28) Try.func269 #[.agg #[.int .i64 a0_0, .bool true]] ?_; (with_reducible refine (spec_wdHigh.calls a0_0 true t274 _ A7.out).mono ?_); rintro e w11 ⟨rfl, hb⟩; refine ⟨_, rfl, ?_⟩; replace BK273 := xkb BK273 hb; replace HB := xA (below_step (xB1 GE273.out HB.out) hb); (try clear hb)))
  go_ret
  exact ⟨by first | rfl | (simp [errW_none, errW_some] <;> rfl) | (simp only [← hji5]; first | rfl | (simp [errW_none, errW_some] <;> rfl)) | (simp [*, errW_none, errW_some] <;> rfl), xB1 GE273.out HB.out⟩
 replace c3 := Bool.eq_false_iff.mpr c3
 subst c3
 rw [if_neg (show ¬ (false = true) by decide)] at H
 obtain ⟨t275, A15, H⟩ := xO H
 (try dsimp only at H)
 obtain ⟨t276, A16, H⟩ := xO H
 (try dsimp only at H)
 obtain ⟨t277, A17, H⟩ := xO H
 (try dsimp only at H)
 obtain ⟨t278, A18, H⟩ := xO H
 (try dsimp only at H)
 obtain rfl := Option.some.inj H
 go_enter Try.func256, Try.ntmps256
 try go_wp2_with (first | (refine xg 2 rfl ?_; refine xV 2 #[.int .i64 a0_0, .bool false] 46 ?_; intro gb273 hg w19 hbox hb; have BK273 := xA (hbox); have GW273 := xgw hg (below_size (xB HB.out)); have GE273 := GW273; replace HB := xA (below_step (xB HB.out) hb); clear hb hbox hg; obtain ⟨hcz20_0, hcz20_1, hfz20_0, hfz20_1⟩ := xZ2 BK273.out))
 replace BK273 := xA (blk_drew BK273.out)
 replace HB := xA (below_drew1 HB.out)
 refine start_ (n := 8) (S := fun w' => w'.cell? ⟨gb273, 0, none⟩ = some (.int .i64 a0_0) ∧ w'.cell? ⟨gb273, 1, none⟩ = some (.bool false)) (ds := []) x5a13 (by kernel_rfl) rfl rfl ⟨(blk_cell BK273.out 0).trans rfl, (blk_cell BK273.out 1).trans rfl⟩ (fun hHeld => ?_); refine with_tabW spec_wdFit.tab2 spec_wdFit.bits2 (fun HT_ HW_ => ?_)
 generalize w19.drew = w21 at BK273 HB hHeld ⊢
 refine xP 4 13 x5a14 ?_
 refine xT2 hHeld 0 9 x5a15 ?_
 refine xT2 hHeld 2 11 x5a16 ?_
 refine xU 1 10 x5a17 (fun K hK => ?_)
 refine xY Try.func269 #[.agg #[.int .i64 a0_0, .bool false]] ?_
 with_reducible refine (spec_wdHigh.calls a0_0 false t275 _ A15.out).mono ?_
 rintro e w22 ⟨rfl, hb⟩
 refine ⟨_, rfl, ?_⟩
 replace BK273 := xkb BK273 hb
 replace HB := xA (below_step (xB1 GE273.out HB.out) hb)
 (try clear hb); (try clear hb2); (try clear hk); (try clear hi)
 refine hK.out _ _ ⟨(blk_cell BK273.out 0).trans rfl, (blk_cell BK273.out 1).trans rfl⟩ (fun hHeld => ?_)
 clear hK K
 refine xN ?_
 refine xU 3 12 x5a18 (fun K hK => ?_)
 refine xY Try.func268 #[.agg #[.int .i64 a0_0, .bool false]] ?_
 with_reducible refine (spec_wdLow.calls a0_0 false t276 _ A16.out).mono ?_
 rintro e w23 ⟨rfl, hb⟩
 refine ⟨_, rfl, ?_⟩
 replace BK273 := xkb BK273 hb
 replace HB := xA (below_step (xB1 GE273.out HB.out) hb)
 (try clear hb); (try clear hb2); (try clear hk); (try clear hi)
 refine hK.out _ _ ⟨(blk_cell BK273.out 0).trans rfl, (blk_cell BK273.out 1).trans rfl⟩ (fun hHeld => ?_)
 clear hK K
 refine xN ?_
 refine xU 5 14 x5a19 (fun K hK => ?_)
 refine xY Try.func271 #[.int .i64 t276, .int .i64 a1] ?_
 with_reducible refine (spec_l1Most.calls t276 a1 t277 _ A17.out).mono ?_
 rintro e w' ⟨rfl, ⟨nd, rfl⟩⟩
 refine ⟨_, rfl, ?_⟩
 refine hK.out _ _ ⟨(blk_cell BK273.out 0).trans rfl, (blk_cell BK273.out 1).trans rfl⟩ (fun hHeld => ?_)
 clear hK K
 refine xN ?_
 refine xU 6 15 x5a20 (fun K hK => ?_)
 refine xY Try.func270 #[.int .i64 t275, .int .i64 t277] ?_
 with_reducible refine (spec_l1Least.calls t275 t277 t278 _ A18.out).mono ?_
 rintro e w' ⟨rfl, ⟨nd, rfl⟩⟩
 refine ⟨_, rfl, ?_⟩
 refine hK.out _ _ ⟨(blk_cell BK273.out 0).trans rfl, (blk_cell BK273.out 1).trans rfl⟩ (fun hHeld => ?_)
 clear hK K
 refine xN ?_
 refine xP 7 4 x5a21 ?_
 refine xDn ?_
 try go_wp2
 go_ret
 exact ⟨xr, xB1 GE273.out HB.out⟩

end Go.Proofs.Ytjplcongellcmaa.PFnFirstCycles
