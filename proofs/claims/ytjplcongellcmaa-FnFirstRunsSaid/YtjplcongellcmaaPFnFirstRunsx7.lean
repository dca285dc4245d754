/- What each Go function that the statement FnFirstRuns reaches answers, proved call by call. No condition beyond those that the theorems print. (Written by wip/tools/xprint.py of this repo, over the kit's print.) -/
import Derived.Test.YtjplcongellcmaaPFnFirstRunsx0
import Derived.Test.YtjplcongellcmaaPFnFirstRunsx4
import Derived.Test.YtjplcongellcmaaPFnFirstRunsx6
namespace Go.Proofs.Ytjplcongellcmaa.PFnFirstRuns
open Go.RowKit Go.Proofs.YtjplcongellcmaaW.PrintWords Go.Proofs.YtjplcongellcmaaW.PrintLast Go.Proofs.YtjplcongellcmaaW.PrintMore
attribute [local go_sem] max2_int min2_int max_two min_two max_three min_three max_four min_four   -- for this text's walks alone
set_option linter.unusedVariables false
set_option linter.unusedSimpArgs false
def x7a0 : Array Bool := #[Zz,Zz,Zz,Zz,Zz,Zz,Zz,Zz]
def x7a1 : Array Bool := #[Zz,Zz,Zz,Zz,Yy,Zz,Zz,Zz]
def x7a2 : Array Bool := #[Yy,Zz,Zz,Zz,Yy,Zz,Zz,Zz]
def x7a3 : Array Bool := #[Yy,Zz,Yy,Zz,Yy,Zz,Zz,Zz]
def x7a4 : Array Bool := #[Yy,Yy,Yy,Zz,Yy,Zz,Zz,Zz]
def x7a5 : Array Bool := #[Yy,Yy,Yy,Yy,Yy,Zz,Zz,Zz]
def x7a6 : Array Bool := #[Yy,Yy,Yy,Yy,Yy,Yy,Zz,Zz]
def x7a7 : Array Bool := #[Yy,Yy,Yy,Yy,Yy,Yy,Yy,Zz]
def x7a8 : Array Bool := #[Yy,Yy,Yy,Yy,Yy,Yy,Yy,Yy]

/-! ### spec_wdFit: function 256 -/
def spec_wdFit.f (a0_0 : Int) (a0_1 : Bool) (a1 : Int) : Option (Int) := if a0_1 = true then (if 0 ≤ a0_0 then (if (shl .i64 1 a0_0) = 0 then (none) else ((spec_wdHigh.f a0_0 a0_1).bind fun t344 => (if (Int.tmod (wrap64 ((Int.tmod a1 (shl .i64 1 a0_0)) + (shl .i64 1 a0_0))) (shl .i64 1 a0_0)) > t344 then (some (wrap64 ((Int.tmod (wrap64 ((Int.tmod a1 (shl .i64 1 a0_0)) + (shl .i64 1 a0_0))) (shl .i64 1 a0_0)) - (shl .i64 1 a0_0)))) else (some (Int.tmod (wrap64 ((Int.tmod a1 (shl .i64 1 a0_0)) + (shl .i64 1 a0_0))) (shl .i64 1 a0_0)))))) else (none)) else ((spec_wdHigh.f a0_0 a0_1).bind fun t345 => ((spec_wdLow.f a0_0 a0_1).bind fun t346 => ((spec_l1Most.f t346 a1).bind fun t347 => ((spec_l1Least.f t345 t347).bind fun t348 => (some t348)))))
def spec_wdFit.T2 : Bool × List (List Nat × List Nat) := (true, [([], []), ([0], [0]), ([], []), ([2, 1], [2]), ([], []), ([3, 4, 3], [3, 4]), ([1, 5, 5], [1, 5]), ([6, 6, 0, 1, 2, 3, 4, 5, 6], [6])])
def spec_wdFit.B2 : List Nat := [0, 1, 0, 7, 0, 31, 63, 127]
theorem spec_wdFit.tab2 : rtab .any (opsOf Try.f256 2) = spec_wdFit.T2 := by kernel_rfl
theorem spec_wdFit.bits2 : waitsOk spec_wdFit.T2.2 spec_wdFit.B2 = true := by kernel_rfl
set_option maxHeartbeats 200000000 in
set_option maxRecDepth 100000 in
theorem spec_wdFit.calls (a0_0 : Int) (a0_1 : Bool) (a1 : Int) (r : Int) (w : World) (h : spec_wdFit.f a0_0 a0_1 a1 = some r) :
  Calls Try.prog 256 #[.agg #[.int .i64 a0_0, .bool a0_1], .int .i64 a1] w fun e w' => e = .returned (.int .i64 r) ∧ Below w.heap.size w w' := by
 have hu46 := Try.underlying46
 have HB := xA (Below.refl w.heap.size w)
 have H : (if a0_1 = true then (if 0 ≤ a0_0 then (if (shl .i64 1 a0_0) = 0 then (none) else ((spec_wdHigh.f a0_0 a0_1).bind fun t344 => (if (Int.tmod (wrap64 ((Int.tmod a1 (shl .i64 1 a0_0)) + (shl .i64 1 a0_0))) (shl .i64 1 a0_0)) > t344 then (some (wrap64 ((Int.tmod (wrap64 ((Int.tmod a1 (shl .i64 1 a0_0)) + (shl .i64 1 a0_0))) (shl .i64 1 a0_0)) - (shl .i64 1 a0_0)))) else (some (Int.tmod (wrap64 ((Int.tmod a1 (shl .i64 1 a0_0)) + (shl .i64 1 a0_0))) (shl .i64 1 a0_0)))))) else (none)) else ((spec_wdHigh.f a0_0 a0_1).bind fun t345 => ((spec_wdLow.f a0_0 a0_1).bind fun t346 => ((spec_l1Most.f t346 a1).bind fun t347 => ((spec_l1Least.f t345 t347).bind fun t348 => (some t348)))))) = some r := h
 clear h
 by_cases c3 : a0_1 = true
 ·subst c3
  rw [if_pos rfl] at H
  by_cases c4 : 0 ≤ a0_0
  rotate_left
  ·rw [if_neg c4] at H
   exact absurd H (by simp)
  rw [if_pos c4] at H
  have c4b0 := eq_true c4
  have c4b1 : decide (0 ≤ a0_0) = true := decide_eq_true c4
  clear c4
  obtain ⟨ji5, hji5⟩ : ∃ j_ : Int, (shl .i64 1 a0_0) = j_ := ⟨_, rfl⟩
  (first | rw [hji5] at H | simp only [hji5] at H)
  have hji5_ : (IntKind.i64.wrap (1 * 2 ^ min a0_0.toNat 64)) = ji5 := hji5
  have hji5z : a0_0 ≤ 64 → (IntKind.i64.wrap (1 * 2 ^ a0_0.toNat)) = ji5 := shl_small hji5
  have hji5u : (IntKind.i64.wrap (2 ^ min a0_0.toNat 64)) = ji5 := by have h_ := hji5_; rw [Int.one_mul] at h_; exact h_
  have hji5v : a0_0 ≤ 64 → (IntKind.i64.wrap (2 ^ a0_0.toNat)) = ji5 := fun hle_ => by have h_ := hji5z hle_; rw [Int.one_mul] at h_; exact h_
  have hji5y : (wrap64 (1 * 2 ^ min a0_0.toNat 64)) = ji5 := (i64_w _).symm.trans hji5_
  have hji5x : a0_0 ≤ 64 → (wrap64 (1 * 2 ^ a0_0.toNat)) = ji5 := fun h_ => (i64_w _).symm.trans (hji5z h_)
  by_cases c6 : (ji5) = 0
  ·rw [if_pos c6] at H
   exact absurd H (by simp)
  rw [if_neg c6] at H
  have c6b0 : ((ji5) == 0) = false := beq_eq_false_iff_ne.mpr c6
  have c6b1 : ((ji5) != 0) = true := bne_iff_ne.mpr c6
  obtain ⟨t344, A7, H⟩ := xO H
  (try dsimp only at H)
  by_cases c8 : (Int.tmod (wrap64 ((Int.tmod a1 (ji5)) + (ji5))) (ji5)) > t344
  rotate_left
  ·rw [if_neg c8] at H
   have c8b0 : decide (t344 < (Int.tmod (wrap64 ((Int.tmod a1 (ji5)) + (ji5))) (ji5))) = false := decide_eq_false c8
   clear c8
   obtain rfl := Option.some.inj H
   go_enter Try.func256, Try.ntmps256
   go_wp2_with (first | (refine xg 2 rfl ?_; refine xV 2 #[.int .i64 a0_0, .bool true] 46 ?_; intro gb343 hg w12 hbox hb; have BK343 := xA (hbox); have GW343 := xgw hg (below_size (xB HB.out)); have GE343 := GW343; replace HB := xA (below_step (xB HB.out) hb); clear hb hbox hg; replace hz343 := blk_cell BK343.out; replace hy343 := blk_frozen BK343.out) | (refine xG (some 28) Try.func269 #[.agg #[.int .i64 a0_0, .bool true]] ?_; (with_reducible refine (spec_wdHigh.calls a0_0 true t344 _ A7.out).mono ?_); rintro e w14 ⟨rfl, hb⟩; refine ⟨_, rfl, ?_⟩; replace BK343 := xkb BK343 hb; replace HB := xA (below_step (xB1 GE343.out HB.out) hb); (try clear hb)))
   go_ret
   exact ⟨by first | rfl | (simp [errW_none, errW_some] <;> rfl) | (simp only [← hji5]; first | rfl | (simp [errW_none, errW_some] <;> rfl)) | (simp [*, errW_none, errW_some] <;> rfl), xB1 GE343.out HB.out⟩
  rw [if_pos c8] at H
  have c8b0 : decide (t344 < (Int.tmod (wrap64 ((Int.tmod a1 (ji5)) + (ji5))) (ji5))) = true := decide_eq_true c8
  clear c8
  obtain rfl := Option.some.inj H
  go_enter Try.func256, Try.ntmps256
  go_wp2_with (first | (refine xg 2 rfl ?_; refine xV 2 #[.int .i64 a0_0, .bool true] 46 ?_; intro gb343 hg w9 hbox hb; have BK343 := xA (hbox); have GW343 := xgw hg (below_size (xB HB.out)); have GE343 := GW343; replace HB := xA (below_step (xB HB.out) hb); clear hb hbox hg; obtain ⟨hcz10_0, hcz10_1, hfz10_0, hfz10_1⟩ := xZ2 BK343.out) | (refine xG (some 28) Try.func269 #[.agg #[.int .i64 a0_0, .bool true]] ?_; (with_reducible refine (spec_wdHigh.calls a0_0 true t344 _ A7.out).mono ?_); rintro e w11 ⟨rfl, hb⟩; refine ⟨_, rfl, ?_⟩; replace BK343 := xkb BK343 hb; replace HB := xA (below_step (xB1 GE343.out HB.out) hb); (try clear hb)))
  go_ret
  exact ⟨by first | rfl | (simp [errW_none, errW_some] <;> rfl) | (simp only [← hji5]; first | rfl | (simp [errW_none, errW_some] <;> rfl)) | (simp [*, errW_none, errW_some] <;> rfl), xB1 GE343.out HB.out⟩
 replace c3 := Bool.eq_false_iff.mpr c3
 subst c3
 rw [if_neg (show ¬ (false = true) by decide)] at H
 obtain ⟨t345, A15, H⟩ := xO H
 (try dsimp only at H)
 obtain ⟨t346, A16, H⟩ := xO H
 (try dsimp only at H)
 obtain ⟨t347, A17, H⟩ := xO H
 (try dsimp only at H)
 obtain ⟨t348, A18, H⟩ := xO H
 (try dsimp only at H)
 obtain rfl := Option.some.inj H
 go_enter Try.func256, Try.ntmps256
 try go_wp2_with (first | (refine xg 2 rfl ?_; refine xV 2 #[.int .i64 a0_0, .bool false] 46 ?_; intro gb343 hg w19 hbox hb; have BK343 := xA (hbox); have GW343 := xgw hg (below_size (xB HB.out)); have GE343 := GW343; replace HB := xA (below_step (xB HB.out) hb); clear hb hbox hg; obtain ⟨hcz20_0, hcz20_1, hfz20_0, hfz20_1⟩ := xZ2 BK343.out))
 replace BK343 := xA (blk_drew BK343.out)
 replace HB := xA (below_drew1 HB.out)
 refine start_ (n := 8) (S := fun w' => w'.cell? ⟨gb343, 0, none⟩ = some (.int .i64 a0_0) ∧ w'.cell? ⟨gb343, 1, none⟩ = some (.bool false)) (ds := []) x7a0 (by kernel_rfl) rfl rfl ⟨(blk_cell BK343.out 0).trans rfl, (blk_cell BK343.out 1).trans rfl⟩ (fun hHeld => ?_); refine with_tabW spec_wdFit.tab2 spec_wdFit.bits2 (fun HT_ HW_ => ?_)
 generalize w19.drew = w21 at BK343 HB hHeld ⊢
 refine xP 4 13 x7a1 ?_
 refine xT2 hHeld 0 9 x7a2 ?_
 refine xT2 hHeld 2 11 x7a3 ?_
 refine xU 1 10 x7a4 (fun K hK => ?_)
 refine xY Try.func269 #[.agg #[.int .i64 a0_0, .bool false]] ?_
 with_reducible refine (spec_wdHigh.calls a0_0 false t345 _ A15.out).mono ?_
 rintro e w22 ⟨rfl, hb⟩
 refine ⟨_, rfl, ?_⟩
 replace BK343 := xkb BK343 hb
 replace HB := xA (below_step (xB1 GE343.out HB.out) hb)
 (try clear hb); (try clear hb2); (try clear hk); (try clear hi)
 refine hK.out _ _ ⟨(blk_cell BK343.out 0).trans rfl, (blk_cell BK343.out 1).trans rfl⟩ (fun hHeld => ?_)
 clear hK K
 refine xN ?_
 refine xU 3 12 x7a5 (fun K hK => ?_)
 refine xY Try.func268 #[.agg #[.int .i64 a0_0, .bool false]] ?_
 with_reducible refine (spec_wdLow.calls a0_0 false t346 _ A16.out).mono ?_
 rintro e w23 ⟨rfl, hb⟩
 refine ⟨_, rfl, ?_⟩
 replace BK343 := xkb BK343 hb
 replace HB := xA (below_step (xB1 GE343.out HB.out) hb)
 (try clear hb); (try clear hb2); (try clear hk); (try clear hi)
 refine hK.out _ _ ⟨(blk_cell BK343.out 0).trans rfl, (blk_cell BK343.out 1).trans rfl⟩ (fun hHeld => ?_)
 clear hK K
 refine xN ?_
 refine xU 5 14 x7a6 (fun K hK => ?_)
 refine xY Try.func271 #[.int .i64 t346, .int .i64 a1] ?_
 with_reducible refine (spec_l1Most.calls t346 a1 t347 _ A17.out).mono ?_
 rintro e w' ⟨rfl, ⟨nd, rfl⟩⟩
 refine ⟨_, rfl, ?_⟩
 refine hK.out _ _ ⟨(blk_cell BK343.out 0).trans rfl, (blk_cell BK343.out 1).trans rfl⟩ (fun hHeld => ?_)
 clear hK K
 refine xN ?_
 refine xU 6 15 x7a7 (fun K hK => ?_)
 refine xY Try.func270 #[.int .i64 t345, .int .i64 t347] ?_
 with_reducible refine (spec_l1Least.calls t345 t347 t348 _ A18.out).mono ?_
 rintro e w' ⟨rfl, ⟨nd, rfl⟩⟩
 refine ⟨_, rfl, ?_⟩
 refine hK.out _ _ ⟨(blk_cell BK343.out 0).trans rfl, (blk_cell BK343.out 1).trans rfl⟩ (fun hHeld => ?_)
 clear hK K
 refine xN ?_
 refine xP 7 4 x7a8 ?_
 refine xDn ?_
 try go_wp2
 go_ret
 exact ⟨xr, xB1 GE343.out HB.out⟩

/-! ### spec_wdShift: function 257 -/
mutual
def spec_wdShift.j0 : Nat → Int → Int → Int → Int → Option (Int)
 | 0, _, _, _, _ => none
 | k + 1, x0, x2, x7, x8 => if x2 = 1 then (if (wrap64 (2 * (wrap64 (x0 - (wrap64 (x8 * x7)))))) ≥ x7 then (spec_wdShift.j1 k x0 x2 x8 (wrap64 (x0 - (wrap64 (x8 * x7)))) (decide ((wrap64 (x0 - (wrap64 (x8 * x7)))) > 0))) else (spec_wdShift.j1 k x0 x2 x8 (wrap64 (x0 - (wrap64 (x8 * x7)))) false)) else (spec_wdShift.j1 k x0 x2 x8 (wrap64 (x0 - (wrap64 (x8 * x7)))) false)
def spec_wdShift.j1 : Nat → Int → Int → Int → Int → Bool → Option (Int)
 | 0, _, _, _, _, _ => none
 | k + 1, x0, x2, x8, x9, x26 => if x26 = true then (some (wrap64 (x8 + 1))) else (if x2 = 2 then (if x0 < 0 then (if x9 > 0 then (some (wrap64 (x8 + 1))) else (some x8)) else (some x8)) else (some x8))
end
def spec_wdShift.f (k : Nat) (a0 : Int) (a1 : Int) (a2 : Int) : Option (Int) := if 0 ≤ a1 then (if (shl .i64 1 a1) = 0 then (none) else (if (Int.tmod a0 (shl .i64 1 a1)) < 0 then (spec_wdShift.j0 k a0 a2 (shl .i64 1 a1) (wrap64 ((wrap64 (Int.tdiv a0 (shl .i64 1 a1))) - 1))) else (spec_wdShift.j0 k a0 a2 (shl .i64 1 a1) (wrap64 (Int.tdiv a0 (shl .i64 1 a1)))))) else (none)
theorem spec_wdShift.mono_l : ∀ k, (∀ y0 y1 y2 y3, LeO (spec_wdShift.j0 k y0 y1 y2 y3) (spec_wdShift.j0 (k + 1) y0 y1 y2 y3)) ∧ (∀ y0 y1 y2 y3 y4, LeO (spec_wdShift.j1 k y0 y1 y2 y3 y4) (spec_wdShift.j1 (k + 1) y0 y1 y2 y3 y4))
 | 0 => ⟨fun _ _ _ _ r h => by simp [spec_wdShift.j0] at h, fun _ _ _ _ _ r h => by simp [spec_wdShift.j1] at h⟩
 | k + 1 => by
  obtain ⟨ih0, ih1⟩ := spec_wdShift.mono_l k
  refine ⟨?_, ?_⟩ <;> intros
  ·unfold spec_wdShift.j0; exact xM
  ·unfold spec_wdShift.j1; exact xM
theorem spec_wdShift.mono : ∀ a0 a1 a2 k, LeO (spec_wdShift.f k a0 a1 a2) (spec_wdShift.f (k + 1) a0 a1 a2) := by
 intro a0 a1 a2 k
 obtain ⟨ih0, ih1⟩ := spec_wdShift.mono_l k
 unfold spec_wdShift.f
 exact xM
set_option maxHeartbeats 200000000 in
set_option maxRecDepth 100000 in
theorem spec_wdShift.calls (k : Nat) (a0 : Int) (a1 : Int) (a2 : Int) (r : Int) (w : World) (h : spec_wdShift.f k a0 a1 a2 = some r) :
  Calls Try.prog 257 #[.int .i64 a0, .int .i64 a1, .int .i64 a2] w fun e w' => e = .returned (.int .i64 r) ∧ Drawn0 w w' := by
 have H : (if 0 ≤ a1 then (if (shl .i64 1 a1) = 0 then (none) else (if (Int.tmod a0 (shl .i64 1 a1)) < 0 then (spec_wdShift.j0 k a0 a2 (shl .i64 1 a1) (wrap64 ((wrap64 (Int.tdiv a0 (shl .i64 1 a1))) - 1))) else (spec_wdShift.j0 k a0 a2 (shl .i64 1 a1) (wrap64 (Int.tdiv a0 (shl .i64 1 a1)))))) else (none)) = some r := h
 clear h
 by_cases c4 : 0 ≤ a1
 rotate_left
 ·rw [if_neg c4] at H
  exact absurd H (by simp)

 rw [if_pos c4] at H
 have c4b0 := eq_true c4
 have c4b1 : decide (0 ≤ a1) = true := decide_eq_true c4
 clear c4
 obtain ⟨ji5, hji5⟩ : ∃ j_ : Int, (shl .i64 1 a1) = j_ := ⟨_, rfl⟩
 (first | rw [hji5] at H | simp only [hji5] at H)
 have hji5_ : (IntKind.i64.wrap (1 * 2 ^ min a1.toNat 64)) = ji5 := hji5
 have hji5z : a1 ≤ 64 → (IntKind.i64.wrap (1 * 2 ^ a1.toNat)) = ji5 := shl_small hji5
 have hji5u : (IntKind.i64.wrap (2 ^ min a1.toNat 64)) = ji5 := by have h_ := hji5_; rw [Int.one_mul] at h_; exact h_
 have hji5v : a1 ≤ 64 → (IntKind.i64.wrap (2 ^ a1.toNat)) = ji5 := fun hle_ => by have h_ := hji5z hle_; rw [Int.one_mul] at h_; exact h_
 have hji5y : (wrap64 (1 * 2 ^ min a1.toNat 64)) = ji5 := (i64_w _).symm.trans hji5_
 have hji5x : a1 ≤ 64 → (wrap64 (1 * 2 ^ a1.toNat)) = ji5 := fun h_ => (i64_w _).symm.trans (hji5z h_)
 by_cases c6 : (ji5) = 0
 ·rw [if_pos c6] at H
  exact absurd H (by simp)
 rw [if_neg c6] at H
 have c6b0 : ((ji5) == 0) = false := beq_eq_false_iff_ne.mpr c6
 have c6b1 : ((ji5) != 0) = true := bne_iff_ne.mpr c6
 have HC7 := xA H
 clear H
 go_enter Try.func257, Try.ntmps257
 go_upto_if 18 with (fail)
 go_cut [8] from 10 to 18 (fun v8 wc => ∃ (kq : Nat) (x8_6 : Int), v8 = .int .i64 x8_6 ∧ Aside0 (spec_wdShift.j0 kq a0 a2 ji5 x8_6 = some r) ∧ Aside0 (kq ≤ k) ∧ Drawn0 w wc)
 case first => as_aux_lemma =>
  have H := HC7.out
  clear HC7
  by_cases c8 : (Int.tmod a0 (ji5)) < 0
  rotate_left
  ·rw [if_neg c8] at H
   have c8b0 : decide ((Int.tmod a0 (ji5)) < 0) = false := decide_eq_false c8
   clear c8
   (first | rw [c8b0] | (simp only [i64_w, i32_w]; rw [c8b0]) | skip)
   have H' := xA H
   clear H
   go_wp2
   go_meet
   case rel => exact ⟨_, (wrap64 (Int.tdiv a0 (ji5))), (by first | rfl | (simp; done) | (simp only [← hji5] <;> (first | rfl | simp)) | (simp [*]; done)), H', ⟨by first | omega | exact Nat.le_refl _⟩, by repeat (first | exact Drawn0.refl _ | apply Drawn0.step)⟩
  rw [if_pos c8] at H
  have c8b0 : decide ((Int.tmod a0 (ji5)) < 0) = true := decide_eq_true c8
  clear c8
  (first | rw [c8b0] | (simp only [i64_w, i32_w]; rw [c8b0]) | skip)
  have H' := xA H
  clear H
  go_wp2
  go_meet
  case rel => exact ⟨_, (wrap64 ((wrap64 (Int.tdiv a0 (ji5))) - 1)), (by first | rfl | (simp; done) | (simp only [← hji5] <;> (first | rfl | simp)) | (simp [*]; done)), H', ⟨by first | omega | exact Nat.le_refl _⟩, by repeat (first | exact Drawn0.refl _ | apply Drawn0.step)⟩
 case rest => as_aux_lemma =>
  clear HC7
  try clear c4b0
  try clear c4b1
  try clear c6
  try clear c6b0
  try clear c6b1
  obtain ⟨kq, x8_6, rfl, HA, HJ6, ⟨mc6, rfl⟩⟩ := hcut
  cases kq with
  | zero => exact absurd HA.out (by simp [spec_wdShift.j0])
  | succ kj6 =>
   have H := HA.out
   clear HA
   simp only [spec_wdShift.j0] at H
   have HC9 := xA H
   clear H
   go_upto_region 6 with (fail)
   go_cut [26] from 19 to 25 (fun v26 wc => ∃ (kq : Nat) (x26_8 : Bool), v26 = .bool x26_8 ∧ Aside0 (spec_wdShift.j1 kq a0 a2 x8_6 (wrap64 (a0 - (wrap64 (x8_6 * ji5)))) x26_8 = some r) ∧ Aside0 (kq ≤ kj6) ∧ Drawn0 w wc)
   case first => as_aux_lemma =>
    have H := HC9.out
    clear HC9
    by_cases c10 : a2 = 1
    rotate_left
    ·rw [if_neg c10] at H
     have c10b0 : (a2 == 1) = false := beq_eq_false_iff_ne.mpr c10
     have c10b1 : (a2 != 1) = true := bne_iff_ne.mpr c10
     (first | rw [c10b0] | (simp only [i64_w, i32_w]; rw [c10b0]) | skip)
     have H' := xA H
     clear H
     go_wp2
     go_meet
     case rel => exact ⟨_, (false), xs, H', ⟨by have := HJ6.out; first | omega | exact Nat.le_refl _⟩, by repeat (first | exact Drawn0.refl _ | apply Drawn0.step)⟩
    rw [if_pos c10] at H
    have c10b0 : (a2 == 1) = true := beq_iff_eq.mpr c10
    have c10b1 : (a2 != 1) = false := bne_eq_false_iff_eq.mpr c10
    clear c10
    (first | rw [c10b0] | (simp only [i64_w, i32_w]; rw [c10b0]) | skip)
    by_cases c11 : (wrap64 (2 * (wrap64 (a0 - (wrap64 (x8_6 * ji5)))))) ≥ ji5
    rotate_left
    ·rw [if_neg c11] at H
     have c11b0 : decide (ji5 ≤ (wrap64 (2 * (wrap64 (a0 - (wrap64 (x8_6 * ji5))))))) = false := decide_eq_false c11
     clear c11
     have H' := xA H
     clear H
     go_wp2
     go_meet
     case rel => exact ⟨_, (false), xs, H', ⟨by have := HJ6.out; first | omega | exact Nat.le_refl _⟩, by repeat (first | exact Drawn0.refl _ | apply Drawn0.step)⟩
    rw [if_pos c11] at H
    have c11b0 : decide (ji5 ≤ (wrap64 (2 * (wrap64 (a0 - (wrap64 (x8_6 * ji5))))))) = true := decide_eq_true c11
    clear c11
    have H' := xA H
    clear H
    go_wp2
    go_meet
    case rel => exact ⟨_, (decide ((wrap64 (a0 - (wrap64 (x8_6 * ji5)))) > 0)), (by first | rfl | (simp; done) | (simp only [← hji5] <;> (first | rfl | simp)) | (simp [*]; done)), H', ⟨by have := HJ6.out; first | omega | exact Nat.le_refl _⟩, by repeat (first | exact Drawn0.refl _ | apply Drawn0.step)⟩
   case rest => as_aux_lemma =>
    clear HC9
    obtain ⟨kq, x26_8, rfl, HA, HJ8, ⟨mc8, rfl⟩⟩ := hcut
    cases kq with
    | zero => exact absurd HA.out (by simp [spec_wdShift.j1])
    | succ kj8 =>
     have H := HA.out
     clear HA
     simp only [spec_wdShift.j1] at H
     by_cases c12 : x26_8 = true
     ·subst c12
      rw [if_pos rfl] at H
      obtain rfl := Option.some.inj H
      go_wp2
      go_ret
      exact ⟨by first | rfl | (simp; done) | (simp only [← hji5] <;> (first | rfl | simp)) | (simp [*]; done), by repeat (first | exact Drawn0.refl _ | apply Drawn0.step)⟩
     replace c12 := Bool.eq_false_iff.mpr c12
     subst c12
     rw [if_neg (show ¬ (false = true) by decide)] at H
     by_cases c13 : a2 = 2
     rotate_left
     ·rw [if_neg c13] at H
      have c13b0 : (a2 == 2) = false := beq_eq_false_iff_ne.mpr c13
      have c13b1 : (a2 != 2) = true := bne_iff_ne.mpr c13
      obtain rfl := Option.some.inj H
      go_wp2
      go_ret
      exact ⟨by first | rfl | (simp; done) | (simp only [← hji5] <;> (first | rfl | simp)) | (simp [*]; done), by repeat (first | exact Drawn0.refl _ | apply Drawn0.step)⟩
     rw [if_pos c13] at H
     have c13b0 : (a2 == 2) = true := beq_iff_eq.mpr c13
     have c13b1 : (a2 != 2) = false := bne_eq_false_iff_eq.mpr c13
     clear c13
     by_cases c14 : a0 < 0
     rotate_left
     ·rw [if_neg c14] at H
      have c14b0 : decide (a0 < 0) = false := decide_eq_false c14
      clear c14
      obtain rfl := Option.some.inj H
      go_wp2
      go_ret
      exact ⟨by first | rfl | (simp; done) | (simp only [← hji5] <;> (first | rfl | simp)) | (simp [*]; done), by repeat (first | exact Drawn0.refl _ | apply Drawn0.step)⟩
     rw [if_pos c14] at H
     have c14b0 : decide (a0 < 0) = true := decide_eq_true c14
     clear c14
     by_cases c15 : (wrap64 (a0 - (wrap64 (x8_6 * ji5)))) > 0
     rotate_left
     ·rw [if_neg c15] at H
      have c15b0 : decide (0 < (wrap64 (a0 - (wrap64 (x8_6 * ji5))))) = false := decide_eq_false c15
      clear c15
      obtain rfl := Option.some.inj H
      go_wp2
      go_ret
      exact ⟨by first | rfl | (simp; done) | (simp only [← hji5] <;> (first | rfl | simp)) | (simp [*]; done), by repeat (first | exact Drawn0.refl _ | apply Drawn0.step)⟩
     rw [if_pos c15] at H
     have c15b0 : decide (0 < (wrap64 (a0 - (wrap64 (x8_6 * ji5))))) = true := decide_eq_true c15
     clear c15
     obtain rfl := Option.some.inj H
     go_wp2
     go_ret
     exact ⟨by first | rfl | (simp; done) | (simp only [← hji5] <;> (first | rfl | simp)) | (simp [*]; done), by repeat (first | exact Drawn0.refl _ | apply Drawn0.step)⟩
/-! ### spec_foRaw: function 383 -/
def spec_foRaw.f (k : Nat) (a0_0 : Int) (a0_1 : Int) (a0_2 : Int) (a0_3 : Int) (a0_4 : Bool) (a1 : Int) (a2 : Int) : Option (Int) := (spec_wdShift.f k (wrap64 (a0_0 * a1)) a0_1 a0_2).bind fun t350 => (some (wrap64 (t350 + a2)))
theorem spec_foRaw.mono : ∀ a0 a1 a2 a3 a4 a5 a6 k, LeO (spec_foRaw.f k a0 a1 a2 a3 a4 a5 a6) (spec_foRaw.f (k + 1) a0 a1 a2 a3 a4 a5 a6) := by
 intro a0 a1 a2 a3 a4 a5 a6 k
 have m0 := @spec_wdShift.mono
 unfold spec_foRaw.f
 exact xM
set_option maxHeartbeats 200000000 in
set_option maxRecDepth 100000 in
theorem spec_foRaw.calls (k : Nat) (a0_0 : Int) (a0_1 : Int) (a0_2 : Int) (a0_3 : Int) (a0_4 : Bool) (a1 : Int) (a2 : Int) (r : Int) (w : World) (h : spec_foRaw.f k a0_0 a0_1 a0_2 a0_3 a0_4 a1 a2 = some r) :
  Calls Try.prog 383 #[.agg #[.int .i64 a0_0, .int .i64 a0_1, .int .i64 a0_2, .int .i64 a0_3, .bool a0_4], .int .i64 a1, .int .i64 a2] w fun e w' => e = .returned (.int .i64 r) ∧ Below w.heap.size w w' := by
 have hu62 := Try.underlying62
 have HB := xA (Below.refl w.heap.size w)
 have H : ((spec_wdShift.f k (wrap64 (a0_0 * a1)) a0_1 a0_2).bind fun t350 => (some (wrap64 (t350 + a2)))) = some r := h
 clear h
 obtain ⟨t350, A4, H⟩ := xO H
 (try dsimp only at H)
 obtain rfl := Option.some.inj H
 go_enter Try.func383, Try.ntmps383
 go_wp2_with (first | (refine xg 3 rfl ?_; refine xV 3 #[.int .i64 a0_0, .int .i64 a0_1, .int .i64 a0_2, .int .i64 a0_3, .bool a0_4] 62 ?_; intro gb349 hg w5 hbox hb; have BK349 := xA (hbox); have GW349 := xgw hg (below_size (xB HB.out)); have GE349 := GW349; replace HB := xA (below_step (xB HB.out) hb); clear hb hbox hg; replace hz349 := blk_cell BK349.out; replace hy349 := blk_frozen BK349.out) | (refine xG (some 15) Try.func257 #[.int .i64 (wrap64 (a0_0 * a1)), .int .i64 a0_1, .int .i64 a0_2] ?_; (with_reducible refine (spec_wdShift.calls k (wrap64 (a0_0 * a1)) a0_1 a0_2 t350 _ A4.out).mono ?_); rintro e w' ⟨rfl, ⟨nd, rfl⟩⟩; refine ⟨_, rfl, ?_⟩))
 go_ret
 exact ⟨xr, xB1 GE349.out HB.out⟩

/-! ### spec_foRun: function 286 -/
def spec_foRun.l0 : Nat → Int → List Int → Int → List Int → Int → Int → Int → Int → Int → Int → Bool → Option (List Int × Int)
 | 0, _, _, _, _, _, _, _, _, _, _, _ => none
 | k + 1, x1, x8, x9, x13, x14, x15, x352000, x352001, x352002, x352003, x352004 => if x15 < x14 then (if 0 ≤ x15 then (if x15 < (x13.length : Int) then ((spec_foRaw.f k x352000 x352001 x352002 x352003 x352004 x1 (rd x13 x15)).bind fun t353 => ((spec_wdFit.f x352003 x352004 t353).bind fun t354 => (if t354 = t353 then (if x8.length < 17592186044416 then (spec_foRun.l0 k t354 (x8 ++ [t354]) x9 x13 x14 (wrap64 (x15 + 1)) x352000 x352001 x352002 x352003 x352004) else (none)) else (if x8.length < 17592186044416 then (spec_foRun.l0 k t354 (x8 ++ [t354]) (wrap64 (x9 + 1)) x13 x14 (wrap64 (x15 + 1)) x352000 x352001 x352002 x352003 x352004) else (none))))) else (none)) else (none)) else (some (x8, x9))
def spec_foRun.f (k : Nat) (a0_0 : Int) (a0_1 : Int) (a0_2 : Int) (a0_3 : Int) (a0_4 : Bool) (a1 : Int) (l2 : List Int) : Option (List Int × Int) := spec_foRun.l0 k a1 ([] : List Int) 0 l2 (l2.length : Int) 0 a0_0 a0_1 a0_2 a0_3 a0_4
theorem spec_foRun.mono_l : ∀ k, (∀ y0 y1 y2 y3 y4 y5 y6 y7 y8 y9 y10, LeO (spec_foRun.l0 k y0 y1 y2 y3 y4 y5 y6 y7 y8 y9 y10) (spec_foRun.l0 (k + 1) y0 y1 y2 y3 y4 y5 y6 y7 y8 y9 y10))
 | 0 => fun _ _ _ _ _ _ _ _ _ _ _ r h => by simp [spec_foRun.l0] at h
 | k + 1 => by
  have ih0 := spec_foRun.mono_l k
  have m0 := @spec_foRaw.mono
  intros
  unfold spec_foRun.l0
  exact xM
theorem spec_foRun.mono : ∀ a0 a1 a2 a3 a4 a5 a6 k, LeO (spec_foRun.f k a0 a1 a2 a3 a4 a5 a6) (spec_foRun.f (k + 1) a0 a1 a2 a3 a4 a5 a6) := by
 intro a0 a1 a2 a3 a4 a5 a6 k
 have ih0 := spec_foRun.mono_l k
 have m0 := @spec_foRaw.mono
 unfold spec_foRun.f
 exact xM
set_option maxHeartbeats 200000000 in
set_option maxRecDepth 100000 in
theorem spec_foRun.calls (k : Nat) (a0_0 : Int) (a0_1 : Int) (a0_2 : Int) (a0_3 : Int) (a0_4 : Bool) (a1 : Int) (A2 : Option Addr) (c2 : Nat) (l2 : List Int) (r1 : List Int) (r2 : Int) (w : World) (hr2 : Kd.C (Kd.int .i64) w A2 l2.length l2) (hc2 : l2.length ≤ c2) (h : spec_foRun.f k a0_0 a0_1 a0_2 a0_3 a0_4 a1 l2 = some (r1, r2)) :
  Calls Try.prog 286 #[.agg #[.int .i64 a0_0, .int .i64 a0_1, .int .i64 a0_2, .int .i64 a0_3, .bool a0_4], .int .i64 a1, .slice A2 l2.length c2] w fun e w' => ∃ v0_ : Value, e = .returned (.tuple #[v0_, .int .i64 r2]) ∧ Kd.R (Kd.int .i64) 3 w' w.heap.size (fun _ => True) v0_ r1 ∧ Below w.heap.size w w' := by
 have hu62 := Try.underlying62
 have hu46 := Try.underlying46
 have HR2 := xA hr2
 have HC2 := xA hc2
 clear hr2 hc2
 have HB := xA (Below.refl w.heap.size w)
 have H : (spec_foRun.l0 k a1 ([] : List Int) 0 l2 (l2.length : Int) 0 a0_0 a0_1 a0_2 a0_3 a0_4) = some (r1, r2) := h
 clear h
 have H' := xA H
 clear H
 go_enter Try.func286, Try.ntmps286
 go_wp2_with (first | (refine xg 3 rfl ?_; refine xV 3 #[.int .i64 a0_0, .int .i64 a0_1, .int .i64 a0_2, .int .i64 a0_3, .bool a0_4] 62 ?_; intro gb351 hg w4 hbox hb; have BK351 := xA (hbox); have GW351 := xgw hg (below_size (xB HB.out)); have GE351 := GW351; replace HB := xA (below_step (xB HB.out) hb); clear hb hbox hg))
 go_loopg [1, 8, 9, 15] k (fun kq v1 v8 v9 v15 w' => ∃ (x1_1 : Int) (x8_1 : List Int) (x9_1 : Int) (x15_1 : Int), v1 = .int .i64 x1_1 ∧ v9 = .int .i64 x9_1 ∧ v15 = .int .i64 x15_1 ∧ Aside0 (spec_foRun.l0 kq x1_1 x8_1 x9_1 l2 (l2.length : Int) x15_1 a0_0 a0_1 a0_2 a0_3 a0_4 = some (r1, r2)) ∧ Aside0 (kq ≤ k) ∧ Aside0 (Kd.R (Kd.int .i64) 3 w' w.heap.size (fun _ => True) v8 x8_1) ∧ Aside0 (w'.heap[gb351]? = some (.cells #[.int .i64 a0_0, .int .i64 a0_1, .int .i64 a0_2, .int .i64 a0_3, .bool a0_4] 62 (0, 0))) ∧ Aside0 (Below w.heap.size w w'))
 case atStart => exact ⟨(a1), (([] : List Int)), (0), (0), xs, xs, xs, H', ⟨Nat.le_refl _⟩, ⟨by first | exact Kd.R_nil _ _ _ _ _ | exact Kd.N_nil _ _ _ _ _ | exact Kd.V_nil _ _ _ _ _ | exact Kd.Q_nil _ _ _ _ _ | exact Kd.S_nil _ _ _ _ _⟩, ⟨xK BK351.out⟩, ⟨xB1 GE351.out HB.out⟩⟩
 case round =>
  clear H'
  try clear c2
  obtain ⟨x1_1, x8_1, x9_1, x15_1, rfl, rfl, rfl, HA, HK1, HO_8, BK351, HB⟩ := hrel
  cases gk with
  | zero => exact absurd HA.out (by simp [spec_foRun.l0])
  | succ k1 =>
   have H := HA.out
   clear HA
   simp only [spec_foRun.l0] at H
   by_cases c5 : x15_1 < (l2.length : Int)
   rotate_left
   ·rw [if_neg c5] at H
    have c5b0 : decide (x15_1 < (l2.length : Int)) = false := decide_eq_false c5
    clear c5
    simp only [Option.some.injEq, Prod.mk.injEq] at H
    obtain ⟨rfl, rfl⟩ := H
    go_wp2
    go_ret2
    exact ⟨_, xr, xR HO_8.out, xB1 GE351.out HB.out⟩

   rw [if_pos c5] at H
   have c5b0 : decide (x15_1 < (l2.length : Int)) = true := decide_eq_true c5
   clear c5
   by_cases c6 : 0 ≤ x15_1
   rotate_left
   ·rw [if_neg c6] at H
    exact absurd H (by simp)
   rw [if_pos c6] at H
   have c6b0 : decide (0 ≤ x15_1) = true := decide_eq_true c6
   clear c6
   by_cases c7 : x15_1 < (l2.length : Int)
   rotate_left
   ·rw [if_neg c7] at H
    exact absurd H (by simp)
   rw [if_pos c7] at H
   have c7b0 : decide (x15_1 < (l2.length : Int)) = true := decide_eq_true c7
   clear c7
   obtain ⟨t353, A8, H⟩ := xO H
   (try dsimp only at H)
   obtain ⟨t354, A9, H⟩ := xO H
   (try dsimp only at H)
   by_cases c10 : t354 = t353
   rotate_left
   ·rw [if_neg c10] at H
    have c10b0 : (t354 == t353) = false := beq_eq_false_iff_ne.mpr c10
    have c10b1 : (t354 != t353) = true := bne_iff_ne.mpr c10
    by_cases c17 : x8_1.length < 17592186044416
    rotate_left
    ·rw [if_neg c17] at H
     exact absurd H (by simp)
    rw [if_pos c17] at H
    have LMc17 := xA c17
    clear c17
    obtain ⟨y358, hy358⟩ : ∃ y_ : List Int, y_ = (x8_1 ++ [t354]) := ⟨_, rfl⟩
    replace H : (spec_foRun.l0 k1 t354 y358 (wrap64 (x9_1 + 1)) l2 (l2.length : Int) (wrap64 (x15_1 + 1)) a0_0 a0_1 a0_2 a0_3 a0_4) = some (r1, r2) := by first | (rw [hy358]; with_reducible exact H) | (have H2_ := (Option.bind_some _ _).symm.trans H; rw [hy358]; with_reducible exact H2_) | (have H2_ := (Option.bind_some _ _).symm.trans H; with_reducible exact H2_) | with_reducible exact H | (rw [hy358]; exact H) | exact H
    have Ny358 := xA hy358
    clear hy358
    have H' := xA H
    clear H
    have p352 : 0 ≤ (x15_1 : Int) := of_decide_eq_true (by first | (with_reducible assumption) | assumption)
    have q352 : x15_1 < (l2.length : Int) := of_decide_eq_true (by first | (with_reducible assumption) | assumption)
    obtain ⟨ad352, e352, hx352_0⟩ := Kd.at_int HR2.out x15_1 p352 q352
    cases e352
    replace hx352_0 := (HB.out.cell (World.block_lt_of_cell? w _ hx352_0)).trans hx352_0
    replace p352 := eq_true p352
    replace q352 := eq_true q352
    obtain ⟨hcz18_0, hcz18_1, hcz18_2, hcz18_3, hcz18_4, hfz18_0, hfz18_1, hfz18_2, hfz18_3, hfz18_4⟩ := xZ5 BK351.out
    go_wp2_with (first | (refine xq rfl ?_; first | (refine xG (some 22) Try.func383 #[.agg #[.int .i64 a0_0, .int .i64 a0_1, .int .i64 a0_2, .int .i64 a0_3, .bool a0_4], .int .i64 x1_1, .int .i64 (rd l2 x15_1)] ?_; (with_reducible refine (spec_foRaw.calls k1 a0_0 a0_1 a0_2 a0_3 a0_4 x1_1 (rd l2 x15_1) t353 _ A8.out).mono ?_); rintro e w19 ⟨rfl, hb⟩; refine ⟨_, rfl, ?_⟩; replace HO_8 := xA (Kd.R_below (xR HO_8.out) hb); replace BK351 := xkb BK351 hb; replace HB := xA (below_step (xB1 GE351.out HB.out) hb); (try clear hb); obtain ⟨hcz20_0, hcz20_1, hcz20_2, hcz20_3, hcz20_4, hfz20_0, hfz20_1, hfz20_2, hfz20_3, hfz20_4⟩ := xZ5 BK351.out) | (refine xG (some 26) Try.func256 #[.agg #[.int .i64 a0_3, .bool a0_4], .int .i64 t353] ?_; (with_reducible refine (spec_wdFit.calls a0_3 a0_4 t353 t354 _ A9.out).mono ?_); rintro e w21 ⟨rfl, hb⟩; refine ⟨_, rfl, ?_⟩; replace HO_8 := xA (Kd.R_below (xR HO_8.out) hb); replace BK351 := xkb BK351 hb; replace HB := xA (below_step (xB1 GE351.out HB.out) hb); (try clear hb))) | ((with_reducible refine gate_builtin (b := .append) (xs := #[.tmp 32, .tmp 34]) rfl ?_); at_builtin; refine Kd.R_append (Kd.int .i64) (w0 := w) w.heap.size rfl (.tmp 32) (.tmp 34) 24 3 (.int .i64 0) 8 rfl Try.underlying24 info3 rfl (by decide) (by omega) u8 x8_1 t354 [.int .i64 t354] (fun _ => True) (fun _ => False) rfl rfl ?aP (fun _ hk => hk.elim) ?aF ?aO ?aB ?aS ?aL ?_; (case aP => exact rfl); (case aB => exact (xB1 GE351.out HB.out)); (case aF => exact (fun _ _ => trivial)); (case aO => exact (xR HO_8.out)); (case aS => exact (below_size (xB1 GE351.out HB.out))); (case aL => have := LMc17.out; omega); intro v359 w22 ho hb hg hat; rw [← Ny358.out] at ho; replace BK351 := xA (blk_grown (xK BK351.out) hg (Kd.R_ne HO_8.out BK351.out (by decide))); replace HB := xA (hb); have HO360 := xA (ho); clear HO_8; clear ho hb hg hat))
    go_roundg k1
    case measure => have := HK1.out; omega
    case rel => exact ⟨(t354), (y358), (wrap64 (x9_1 + 1)), (wrap64 (x15_1 + 1)), xs, xs, xs, H', ⟨by have := HK1.out; omega⟩, ⟨xR HO360.out⟩, ⟨xK BK351.out⟩, ⟨xB1 GE351.out HB.out⟩⟩
   rw [if_pos c10] at H
   have c10b0 : (t354 == t353) = true := beq_iff_eq.mpr c10
   have c10b1 : (t354 != t353) = false := bne_eq_false_iff_eq.mpr c10
   clear c10
   by_cases c11 : x8_1.length < 17592186044416
   rotate_left
   ·rw [if_neg c11] at H
    exact absurd H (by simp)
   rw [if_pos c11] at H
   have LMc11 := xA c11
   clear c11
   obtain ⟨y355, hy355⟩ : ∃ y_ : List Int, y_ = (x8_1 ++ [t354]) := ⟨_, rfl⟩
   replace H : (spec_foRun.l0 k1 t354 y355 x9_1 l2 (l2.length : Int) (wrap64 (x15_1 + 1)) a0_0 a0_1 a0_2 a0_3 a0_4) = some (r1, r2) := by first | (rw [hy355]; with_reducible exact H) | (have H2_ := (Option.bind_some _ _).symm.trans H; rw [hy355]; with_reducible exact H2_) | (have H2_ := (Option.bind_some _ _).symm.trans H; with_reducible exact H2_) | with_reducible exact H | (rw [hy355]; exact H) | exact H
   have Ny355 := xA hy355
   clear hy355
   have H' := xA H
   clear H
   have p352 : 0 ≤ (x15_1 : Int) := of_decide_eq_true (by first | (with_reducible assumption) | assumption)
   have q352 : x15_1 < (l2.length : Int) := of_decide_eq_true (by first | (with_reducible assumption) | assumption)
   obtain ⟨ad352, e352, hx352_0⟩ := Kd.at_int HR2.out x15_1 p352 q352
   cases e352
   replace hx352_0 := (HB.out.cell (World.block_lt_of_cell? w _ hx352_0)).trans hx352_0
   replace p352 := eq_true p352
   replace q352 := eq_true q352
   obtain ⟨hcz12_0, hcz12_1, hcz12_2, hcz12_3, hcz12_4, hfz12_0, hfz12_1, hfz12_2, hfz12_3, hfz12_4⟩ := xZ5 BK351.out
   go_wp2_with (first | (refine xq rfl ?_; first | (refine xG (some 22) Try.func383 #[.agg #[.int .i64 a0_0, .int .i64 a0_1, .int .i64 a0_2, .int .i64 a0_3, .bool a0_4], .int .i64 x1_1, .int .i64 (rd l2 x15_1)] ?_; (with_reducible refine (spec_foRaw.calls k1 a0_0 a0_1 a0_2 a0_3 a0_4 x1_1 (rd l2 x15_1) t353 _ A8.out).mono ?_); rintro e w13 ⟨rfl, hb⟩; refine ⟨_, rfl, ?_⟩; replace HO_8 := xA (Kd.R_below (xR HO_8.out) hb); replace BK351 := xkb BK351 hb; replace HB := xA (below_step (xB1 GE351.out HB.out) hb); (try clear hb); replace hz351 := blk_cell BK351.out; replace hy351 := blk_frozen BK351.out) | (refine xG (some 26) Try.func256 #[.agg #[.int .i64 a0_3, .bool a0_4], .int .i64 t353] ?_; (with_reducible refine (spec_wdFit.calls a0_3 a0_4 t353 t354 _ A9.out).mono ?_); rintro e w15 ⟨rfl, hb⟩; refine ⟨_, rfl, ?_⟩; replace HO_8 := xA (Kd.R_below (xR HO_8.out) hb); replace BK351 := xkb BK351 hb; replace HB := xA (below_step (xB1 GE351.out HB.out) hb); (try clear hb))) | ((with_reducible refine gate_builtin (b := .append) (xs := #[.tmp 32, .tmp 34]) rfl ?_); at_builtin; refine Kd.R_append (Kd.int .i64) (w0 := w) w.heap.size rfl (.tmp 32) (.tmp 34) 24 3 (.int .i64 0) 8 rfl Try.underlying24 info3 rfl (by decide) (by omega) u8 x8_1 t354 [.int .i64 t354] (fun _ => True) (fun _ => False) rfl rfl ?aP (fun _ hk => hk.elim) ?aF ?aO ?aB ?aS ?aL ?_; (case aP => exact rfl); (case aB => exact (xB1 GE351.out HB.out)); (case aF => exact (fun _ _ => trivial)); (case aO => exact (xR HO_8.out)); (case aS => exact (below_size (xB1 GE351.out HB.out))); (case aL => have := LMc11.out; omega); intro v356 w16 ho hb hg hat; rw [← Ny355.out] at ho; replace BK351 := xA (blk_grown (xK BK351.out) hg (Kd.R_ne HO_8.out BK351.out (by decide))); replace HB := xA (hb); have HO357 := xA (ho); clear HO_8; clear ho hb hg hat))
   go_roundg k1
   case measure => have := HK1.out; omega
   case rel => exact ⟨(t354), (y355), (x9_1), (wrap64 (x15_1 + 1)), xs, xs, xs, H', ⟨by have := HK1.out; omega⟩, ⟨xR HO357.out⟩, ⟨xK BK351.out⟩, ⟨xB1 GE351.out HB.out⟩⟩
/-! ### spec_RunFirst: function 88 -/
def spec_RunFirst.f (k : Nat) (a0_0 : Int) (a0_1 : Int) (a0_2 : Int) (a0_3 : Int) (a0_4 : Bool) (a1 : Int) (l2 : List Int) : Option (List Int × Bool) := (spec_foAsked.f a0_0 a0_1 a0_2 a0_3 a0_4 a1 0).bind fun t362 => (if t362 = true then ((spec_wdSignal.f k l2).bind fun t363 => (if t363 = true then ((spec_foRun.f k a0_0 a0_1 a0_2 a0_3 a0_4 a1 l2).bind fun bt364 => (some (bt364.1, true))) else (some (([] : List Int), false)))) else (some (([] : List Int), false)))
theorem spec_RunFirst.mono : ∀ a0 a1 a2 a3 a4 a5 a6 k, LeO (spec_RunFirst.f k a0 a1 a2 a3 a4 a5 a6) (spec_RunFirst.f (k + 1) a0 a1 a2 a3 a4 a5 a6) := by
 intro a0 a1 a2 a3 a4 a5 a6 k
 have m0 := @spec_foRun.mono
 have m1 := @spec_wdSignal.mono
 unfold spec_RunFirst.f
 exact xM
set_option maxHeartbeats 200000000 in
set_option maxRecDepth 100000 in
theorem spec_RunFirst.calls (k : Nat) (a0_0 : Int) (a0_1 : Int) (a0_2 : Int) (a0_3 : Int) (a0_4 : Bool) (a1 : Int) (A2 : Option Addr) (c2 : Nat) (l2 : List Int) (r1 : List Int) (r2 : Bool) (w : World) (hr2 : Kd.C (Kd.int .i64) w A2 l2.length l2) (hc2 : l2.length ≤ c2) (h : spec_RunFirst.f k a0_0 a0_1 a0_2 a0_3 a0_4 a1 l2 = some (r1, r2)) :
  Calls Try.prog 88 #[.agg #[.int .i64 a0_0, .int .i64 a0_1, .int .i64 a0_2, .int .i64 a0_3, .bool a0_4], .int .i64 a1, .slice A2 l2.length c2] w fun e w' => ∃ v0_ : Value, e = .returned (.tuple #[v0_, .bool r2]) ∧ Kd.R (Kd.int .i64) 3 w' w.heap.size (fun _ => True) v0_ r1 ∧ Below w.heap.size w w' := by
 have hu62 := Try.underlying62
 have HR2 := xA hr2
 have HC2 := xA hc2
 clear hr2 hc2
 have HB := xA (Below.refl w.heap.size w)
 have H : ((spec_foAsked.f a0_0 a0_1 a0_2 a0_3 a0_4 a1 0).bind fun t362 => (if t362 = true then ((spec_wdSignal.f k l2).bind fun t363 => (if t363 = true then ((spec_foRun.f k a0_0 a0_1 a0_2 a0_3 a0_4 a1 l2).bind fun bt364 => (some (bt364.1, true))) else (some (([] : List Int), false)))) else (some (([] : List Int), false)))) = some (r1, r2) := h
 clear h
 obtain ⟨t362, A4, H⟩ := xO H
 (try dsimp only at H)
 by_cases c5 : t362 = true
 rotate_left
 ·replace c5 := Bool.eq_false_iff.mpr c5
  subst c5
  rw [if_neg (show ¬ (false = true) by decide)] at H
  simp only [Option.some.injEq, Prod.mk.injEq] at H
  obtain ⟨rfl, rfl⟩ := H
  go_enter Try.func88, Try.ntmps88
  go_wp2_with (first | (refine xg 3 rfl ?_; refine xV 3 #[.int .i64 a0_0, .int .i64 a0_1, .int .i64 a0_2, .int .i64 a0_3, .bool a0_4] 62 ?_; intro gb361 hg w17 hbox hb; have BK361 := xA (hbox); have GW361 := xgw hg (below_size (xB HB.out)); have GE361 := GW361; replace HB := xA (below_step (xB HB.out) hb); clear hb hbox hg; obtain ⟨hcz18_0, hcz18_1, hcz18_2, hcz18_3, hcz18_4, hfz18_0, hfz18_1, hfz18_2, hfz18_3, hfz18_4⟩ := xZ5 BK361.out) | (refine xG (some 12) Try.func285 #[.agg #[.int .i64 a0_0, .int .i64 a0_1, .int .i64 a0_2, .int .i64 a0_3, .bool a0_4], .int .i64 a1, .int .i64 0] ?_; (with_reducible refine (spec_foAsked.calls a0_0 a0_1 a0_2 a0_3 a0_4 a1 0 false _ A4.out).mono ?_); rintro e w19 ⟨rfl, hb⟩; refine ⟨_, rfl, ?_⟩; replace BK361 := xkb BK361 hb; replace HB := xA (below_step (xB1 GE361.out HB.out) hb); (try clear hb)))
  go_ret2
  exact ⟨_, xr, by first | exact Kd.R_nil _ _ _ _ _ | exact Kd.N_nil _ _ _ _ _ | exact Kd.V_nil _ _ _ _ _ | exact Kd.Q_nil _ _ _ _ _ | exact Kd.S_nil _ _ _ _ _, xB1 GE361.out HB.out⟩

 subst c5
 rw [if_pos rfl] at H
 obtain ⟨t363, A6, H⟩ := xO H
 (try dsimp only at H)
 by_cases c7 : t363 = true
 rotate_left
 ·replace c7 := Bool.eq_false_iff.mpr c7
  subst c7
  rw [if_neg (show ¬ (false = true) by decide)] at H
  simp only [Option.some.injEq, Prod.mk.injEq] at H
  obtain ⟨rfl, rfl⟩ := H
  go_enter Try.func88, Try.ntmps88
  go_wp2_with (first | (refine xg 3 rfl ?_; refine xV 3 #[.int .i64 a0_0, .int .i64 a0_1, .int .i64 a0_2, .int .i64 a0_3, .bool a0_4] 62 ?_; intro gb361 hg w14 hbox hb; have BK361 := xA (hbox); have GW361 := xgw hg (below_size (xB HB.out)); have GE361 := GW361; replace HB := xA (below_step (xB HB.out) hb); clear hb hbox hg; replace hz361 := blk_cell BK361.out; replace hy361 := blk_frozen BK361.out) | (refine xG (some 12) Try.func285 #[.agg #[.int .i64 a0_0, .int .i64 a0_1, .int .i64 a0_2, .int .i64 a0_3, .bool a0_4], .int .i64 a1, .int .i64 0] ?_; (with_reducible refine (spec_foAsked.calls a0_0 a0_1 a0_2 a0_3 a0_4 a1 0 true _ A4.out).mono ?_); rintro e w16 ⟨rfl, hb⟩; refine ⟨_, rfl, ?_⟩; replace BK361 := xkb BK361 hb; replace HB := xA (below_step (xB1 GE361.out HB.out) hb); (try clear hb)) | (go_at_call 236; (with_reducible refine (spec_wdSignal.calls k _ _ l2 false _ ?side1 ?side2 A6.out).mono ?_); (case side1 => exact xC (Kd.C_below HR2.out HB.out)); (case side2 => exact HC2.out); rintro e w' ⟨rfl, ⟨nd, rfl⟩⟩))
  go_ret2
  exact ⟨_, xr, by first | exact Kd.R_nil _ _ _ _ _ | exact Kd.N_nil _ _ _ _ _ | exact Kd.V_nil _ _ _ _ _ | exact Kd.Q_nil _ _ _ _ _ | exact Kd.S_nil _ _ _ _ _, xB1 GE361.out HB.out⟩
 subst c7
 rw [if_pos rfl] at H
 replace H := Option.bind_eq_some_iff.mp H
 obtain ⟨⟨t364, t367⟩, A80, H⟩ := H
 (try dsimp only at H)
 have A8 := xA A80
 clear A80
 simp only [Option.some.injEq, Prod.mk.injEq] at H
 obtain ⟨rfl, rfl⟩ := H
 go_enter Try.func88, Try.ntmps88
 go_wp2_with (first | (refine xq rfl ?_; first | (refine xG (some 12) Try.func285 #[.agg #[.int .i64 a0_0, .int .i64 a0_1, .int .i64 a0_2, .int .i64 a0_3, .bool a0_4], .int .i64 a1, .int .i64 0] ?_; (with_reducible refine (spec_foAsked.calls a0_0 a0_1 a0_2 a0_3 a0_4 a1 0 true _ A4.out).mono ?_); rintro e w11 ⟨rfl, hb⟩; refine ⟨_, rfl, ?_⟩; replace BK361 := xkb BK361 hb; replace HB := xA (below_step (xB1 GE361.out HB.out) hb); (try clear hb)) | (refine xG (some 23) Try.func286 #[.agg #[.int .i64 a0_0, .int .i64 a0_1, .int .i64 a0_2, .int .i64 a0_3, .bool a0_4], .int .i64 a1, .slice A2 l2.length c2] ?_; (with_reducible refine (spec_foRun.calls k a0_0 a0_1 a0_2 a0_3 a0_4 a1 _ _ l2 t364 t367 _ ?side1 ?side2 A8.out).mono ?_); (case side1 => repeat (first | exact (Kd.C_below HR2.out (xB1 GE361.out HB.out)) | (with_reducible refine Kd.C_alloc ?_ _) | (with_reducible refine Kd.C_drewN ?_ _) | (with_reducible refine Kd.C_drew ?_))); (case side2 => exact HC2.out); rintro e w13 ⟨v365, rfl, ho0, hb⟩; refine ⟨_, rfl, ?_⟩; have HO366 := xA (Kd.R_lower ho0 (below_size (xB1 GE361.out HB.out))); replace BK361 := xkb BK361 hb; replace HB := xA (below_step (xB1 GE361.out HB.out) hb); (try clear hb); (try clear ho0))) | (refine xg 3 rfl ?_; refine xV 3 #[.int .i64 a0_0, .int .i64 a0_1, .int .i64 a0_2, .int .i64 a0_3, .bool a0_4] 62 ?_; intro gb361 hg w9 hbox hb; have BK361 := xA (hbox); have GW361 := xgw hg (below_size (xB HB.out)); have GE361 := GW361; replace HB := xA (below_step (xB HB.out) hb); clear hb hbox hg; obtain ⟨hcz10_0, hcz10_1, hcz10_2, hcz10_3, hcz10_4, hfz10_0, hfz10_1, hfz10_2, hfz10_3, hfz10_4⟩ := xZ5 BK361.out) | (go_at_call 236; (with_reducible refine (spec_wdSignal.calls k _ _ l2 true _ ?side1 ?side2 A6.out).mono ?_); (case side1 => exact xC (Kd.C_below HR2.out HB.out)); (case side2 => exact HC2.out); rintro e w' ⟨rfl, ⟨nd, rfl⟩⟩; obtain ⟨hcz12_0, hcz12_1, hcz12_2, hcz12_3, hcz12_4, hfz12_0, hfz12_1, hfz12_2, hfz12_3, hfz12_4⟩ := xZ5 BK361.out))
 go_ret2
 exact ⟨_, xr, xR HO366.out, xB1 GE361.out HB.out⟩
-- NOT PRINTED: function 287 (impl_exact)

-- NOT PRINTED: function 288 (impl_ExactFirst_c1)

-- NOT PRINTED: function 289 (impl_ExactFirst_c2)

end Go.Proofs.Ytjplcongellcmaa.PFnFirstRuns
