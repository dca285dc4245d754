/- What each Go function that the statement FnExactCountOutputs reaches answers, proved call by call. No condition beyond those that the theorems print. (Written by wip/tools/xprint.py of this repo, over the kit's print.) -/
import Derived.Test.YtjplcongellcmaaDoorPFnExactCountOutputsx0
import Derived.Test.YtjplcongellcmaaDoorPFnExactCountOutputsx1
import Derived.Test.YtjplcongellcmaaDoorPFnExactCountOutputsx2
namespace Go.Proofs.YtjplcongellcmaaDoor.PFnExactCountOutputs
open Go.RowKit Go.Proofs.YtjplcongellcmaaDoorW.PrintWords Go.Proofs.YtjplcongellcmaaDoorW.PrintLast Go.Proofs.YtjplcongellcmaaDoorW.PrintMore
attribute [local go_sem] max2_int min2_int max_two min_two max_three min_three max_four min_four   -- for this text's walks alone
set_option linter.unusedVariables false
set_option linter.unusedSimpArgs false
def x3a0 : Array Bool := #[Zz,Zz,Zz,Zz,Zz,Zz,Zz,Zz]
def x3a1 : Array Bool := #[Zz,Zz,Zz,Zz,Yy,Zz,Zz,Zz]
def x3a2 : Array Bool := #[Yy,Zz,Zz,Zz,Yy,Zz,Zz,Zz]
def x3a3 : Array Bool := #[Yy,Zz,Yy,Zz,Yy,Zz,Zz,Zz]
def x3a4 : Array Bool := #[Yy,Yy,Yy,Zz,Yy,Zz,Zz,Zz]
def x3a5 : Array Bool := #[Yy,Yy,Yy,Yy,Yy,Zz,Zz,Zz]
def x3a6 : Array Bool := #[Yy,Yy,Yy,Yy,Yy,Yy,Zz,Zz]
def x3a7 : Array Bool := #[Yy,Yy,Yy,Yy,Yy,Yy,Yy,Zz]
def x3a8 : Array Bool := #[Yy,Yy,Yy,Yy,Yy,Yy,Yy,Yy]
def x3a9 : Array Bool := #[Zz,Zz,Zz,Zz,Zz,Zz,Zz,Zz,Zz,Zz,Zz,Zz,Zz]
def x3a10 : Array Bool := #[Zz,Yy,Zz,Zz,Zz,Zz,Zz,Zz,Zz,Zz,Zz,Zz,Zz]
def x3a11 : Array Bool := #[Zz,Yy,Yy,Zz,Zz,Zz,Zz,Zz,Zz,Zz,Zz,Zz,Zz]
def x3a12 : Array Bool := #[Zz,Yy,Yy,Yy,Zz,Zz,Zz,Zz,Zz,Zz,Zz,Zz,Zz]
def x3a13 : Array Bool := #[Zz,Yy,Yy,Yy,Yy,Zz,Zz,Zz,Zz,Zz,Zz,Zz,Zz]
def x3a14 : Array Bool := #[Zz,Yy,Yy,Yy,Yy,Yy,Zz,Zz,Zz,Zz,Zz,Zz,Zz]
def x3a15 : Array Bool := #[Yy,Yy,Yy,Yy,Yy,Yy,Zz,Zz,Zz,Zz,Zz,Zz,Zz]
def x3a16 : Array Bool := #[Yy,Yy,Yy,Yy,Yy,Yy,Yy,Zz,Zz,Zz,Zz,Zz,Zz]
def x3a17 : Array Bool := #[Yy,Yy,Yy,Yy,Yy,Yy,Yy,Yy,Zz,Zz,Zz,Zz,Zz]
def x3a18 : Array Bool := #[Yy,Yy,Yy,Yy,Yy,Yy,Yy,Yy,Yy,Zz,Zz,Zz,Zz]
def x3a19 : Array Bool := #[Yy,Yy,Yy,Yy,Yy,Yy,Yy,Yy,Yy,Yy,Zz,Zz,Zz]
def x3a20 : Array Bool := #[Yy,Yy,Yy,Yy,Yy,Yy,Yy,Yy,Yy,Yy,Yy,Zz,Zz]
def x3a21 : Array Bool := #[Yy,Yy,Yy,Yy,Yy,Yy,Yy,Yy,Yy,Yy,Yy,Yy,Zz]
def x3a22 : Array Bool := #[Yy,Yy,Yy,Yy,Yy,Yy,Yy,Yy,Yy,Yy,Yy,Yy,Yy]

/-! ### spec_wdFit: function 108 -/
def spec_wdFit.f (a0_0 : Int) (a0_1 : Bool) (a1 : Int) : Option (Int) := if a0_1 = true then (if 0 ≤ a0_0 then (if (shl .i64 1 a0_0) = 0 then (none) else ((spec_wdHigh.f a0_0 a0_1).bind fun t146 => (if (Int.tmod (wrap64 ((Int.tmod a1 (shl .i64 1 a0_0)) + (shl .i64 1 a0_0))) (shl .i64 1 a0_0)) > t146 then (some (wrap64 ((Int.tmod (wrap64 ((Int.tmod a1 (shl .i64 1 a0_0)) + (shl .i64 1 a0_0))) (shl .i64 1 a0_0)) - (shl .i64 1 a0_0)))) else (some (Int.tmod (wrap64 ((Int.tmod a1 (shl .i64 1 a0_0)) + (shl .i64 1 a0_0))) (shl .i64 1 a0_0)))))) else (none)) else ((spec_wdHigh.f a0_0 a0_1).bind fun t147 => ((spec_wdLow.f a0_0 a0_1).bind fun t148 => ((spec_l1Most.f t148 a1).bind fun t149 => ((spec_l1Least.f t147 t149).bind fun t150 => (some t150)))))
def spec_wdFit.T2 : Bool × List (List Nat × List Nat) := (true, [([], []), ([0], [0]), ([], []), ([2, 1], [2]), ([], []), ([3, 4, 3], [3, 4]), ([1, 5, 5], [1, 5]), ([6, 6, 0, 1, 2, 3, 4, 5, 6], [6])])
def spec_wdFit.B2 : List Nat := [0, 1, 0, 7, 0, 31, 63, 127]
theorem spec_wdFit.tab2 : rtab .any (opsOf Tryd.f108 2) = spec_wdFit.T2 := by kernel_rfl
theorem spec_wdFit.bits2 : waitsOk spec_wdFit.T2.2 spec_wdFit.B2 = true := by kernel_rfl
set_option maxHeartbeats 200000000 in
set_option maxRecDepth 100000 in
theorem spec_wdFit.calls (a0_0 : Int) (a0_1 : Bool) (a1 : Int) (r : Int) (w : World) (h : spec_wdFit.f a0_0 a0_1 a1 = some r) :
  Calls Tryd.prog 108 #[.agg #[.int .i64 a0_0, .bool a0_1], .int .i64 a1] w fun e w' => e = .returned (.int .i64 r) ∧ Below w.heap.size w w' := by
 have hu77 := Tryd.underlying77
 have HB := xA (Below.refl w.heap.size w)
 have H : (if a0_1 = true then (if 0 ≤ a0_0 then (if (shl .i64 1 a0_0) = 0 then (none) else ((spec_wdHigh.f a0_0 a0_1).bind fun t146 => (if (Int.tmod (wrap64 ((Int.tmod a1 (shl .i64 1 a0_0)) + (shl .i64 1 a0_0))) (shl .i64 1 a0_0)) > t146 then (some (wrap64 ((Int.tmod (wrap64 ((Int.tmod a1 (shl .i64 1 a0_0)) + (shl .i64 1 a0_0))) (shl .i64 1 a0_0)) - (shl .i64 1 a0_0)))) else (some (Int.tmod (wrap64 ((Int.tmod a1 (shl .i64 1 a0_0)) + (shl .i64 1 a0_0))) (shl .i64 1 a0_0)))))) else (none)) else ((spec_wdHigh.f a0_0 a0_1).bind fun t147 => ((spec_wdLow.f a0_0 a0_1).bind fun t148 => ((spec_l1Most.f t148 a1).bind fun t149 => ((spec_l1Least.f t147 t149).bind fun t150 => (some t150)))))) = some r := h
 clear h
 by_cases c3 : a0_1 = true
 ·subst c3
  rw [if_pos rfl] at H
  by_cases c4 : 0 ≤ a0_0
  rotate_left
  ·rw [if_neg c4] at H
   exact absurd H (by simp)
  rw [if_pos c4] at H
  have c4b0 := eq_true c4
  have c4b1 : decide (0 ≤ a0_0) = true := decide_eq_true c4
  clear c4
  obtain ⟨ji5, hji5⟩ : ∃ j_ : Int, (shl .i64 1 a0_0) = j_ := ⟨_, rfl⟩
  (first | rw [hji5] at H | simp only [hji5] at H)
  have hji5_ : (IntKind.i64.wrap (1 * 2 ^ min a0_0.toNat 64)) = ji5 := hji5
  have hji5z : a0_0 ≤ 64 → (IntKind.i64.wrap (1 * 2 ^ a0_0.toNat)) = ji5 := shl_small hji5
  have hji5u : (IntKind.i64.wrap (2 ^ min a0_0.toNat 64)) = ji5 := by have h_ := hji5_; rw [Int.one_mul] at h_; exact h_
  have hji5v : a0_0 ≤ 64 → (IntKind.i64.wrap (2 ^ a0_0.toNat)) = ji5 := fun hle_ => by have h_ := hji5z hle_; rw [Int.one_mul] at h_; exact h_
  have hji5y : (wrap64 (1 * 2 ^ min a0_0.toNat 64)) = ji5 := (i64_w _).symm.trans hji5_
  have hji5x : a0_0 ≤ 64 → (wrap64 (1 * 2 ^ a0_0.toNat)) = ji5 := fun h_ => (i64_w _).symm.trans (hji5z h_)
  by_cases c6 : (ji5) = 0
  ·rw [if_pos c6] at H
   exact absurd H (by simp)
  rw [if_neg c6] at H
  have c6b0 : ((ji5) == 0) = false := beq_eq_false_iff_ne.mpr c6
  have c6b1 : ((ji5) != 0) = true := bne_iff_ne.mpr c6
  obtain ⟨t146, A7, H⟩ := xO H
  (try dsimp only at H)
  by_cases c8 : (Int.tmod (wrap64 ((Int.tmod a1 (ji5)) + (ji5))) (ji5)) > t146
  rotate_left
  ·rw [if_neg c8] at H
   have c8b0 : decide (t146 < (Int.tmod (wrap64 ((Int.tmod a1 (ji5)) + (ji5))) (ji5))) = false := decide_eq_false c8
   clear c8
   obtain rfl := Option.some.inj H
   go_enter Tryd.func108, Tryd.ntmps108
   go_wp2_with (first | (refine xg 2 rfl ?_; refine xV 2 #[.int .i64 a0_0, .bool true] 77 ?_; intro gb145 hg w12 hbox hb; have BK145 := xA (hbox); have GW145 := xgw hg (below_size (xB HB.out)); have GE145 := GW145; replace HB := xA (below_step (xB HB.out) hb); clear hb hbox hg; replace hz145 := blk_cell BK145.out; replace hy145 := blk_frozen BK145.out) | (refine xG (some 28) Tryd.func115 #[.agg #[.int .i64 a0_0, .bool true]] ?_; (with_reducible refine (spec_wdHigh.calls a0_0 true t146 _ A7.out).mono ?_); rintro e w14 ⟨rfl, hb⟩; refine ⟨_, rfl, ?_⟩; replace BK145 := xkb BK145 hb; replace HB := xA (below_step (xB1 GE145.out HB.out) hb); (try clear hb)))
   go_ret
   exact ⟨by first | rfl | (simp [errW_none, errW_some] <;> rfl) | (simp only [← hji5]; first | rfl | (simp [errW_none, errW_some] <;> rfl)) | (simp [*, errW_none, errW_some] <;> rfl), xB1 GE145.out HB.out⟩
  rw [if_pos c8] at H
  have c8b0 : decide (t146 < (Int.tmod (wrap64 ((Int.tmod a1 (ji5)) + (ji5))) (ji5))) = true := decide_eq_true c8
  clear c8
  obtain rfl := Option.some.inj H
  go_enter Tryd.func108, Tryd.ntmps108
  go_wp2_with (first | (refine xg 2 rfl ?_; refine xV 2 #[.int .i64 a0_0, .bool true] 77 ?_; intro gb145 hg w9 hbox hb; have BK145 := xA (hbox); have GW145 := xgw hg (below_size (xB HB.out)); have GE145 := GW145; replace HB := xA (below_step (xB HB.out) hb); clear hb hbox hg; replace hz145 := blk_cell BK145.out; replace hy145 := blk_frozen BK145.out) | (refine xG (some 28) Tryd.func115 #[.agg #[.int .i64 a0_0, .bool true]] ?_; (with_reducible refine (spec_wdHigh.calls a0_0 true t146 _ A7.out).mono ?_); rintro e w11 ⟨rfl, hb⟩; refine ⟨_, rfl, ?_⟩; replace BK145 := xkb BK145 hb; replace HB := xA (below_step (xB1 GE145.out HB.out) hb); (try clear hb)))
  go_ret
  exact ⟨by first | rfl | (simp [errW_none, errW_some] <;> rfl) | (simp only [← hji5]; first | rfl | (simp [errW_none, errW_some] <;> rfl)) | (simp [*, errW_none, errW_some] <;> rfl), xB1 GE145.out HB.out⟩
 replace c3 := Bool.eq_false_iff.mpr c3
 subst c3
 rw [if_neg (show ¬ (false = true) by decide)] at H
 obtain ⟨t147, A15, H⟩ := xO H
 (try dsimp only at H)
 obtain ⟨t148, A16, H⟩ := xO H
 (try dsimp only at H)
 obtain ⟨t149, A17, H⟩ := xO H
 (try dsimp only at H)
 obtain ⟨t150, A18, H⟩ := xO H
 (try dsimp only at H)
 obtain rfl := Option.some.inj H
 go_enter Tryd.func108, Tryd.ntmps108
 try go_wp2_with (first | (refine xg 2 rfl ?_; refine xV 2 #[.int .i64 a0_0, .bool false] 77 ?_; intro gb145 hg w19 hbox hb; have BK145 := xA (hbox); have GW145 := xgw hg (below_size (xB HB.out)); have GE145 := GW145; replace HB := xA (below_step (xB HB.out) hb); clear hb hbox hg; obtain ⟨hcz20_0, hcz20_1, hfz20_0, hfz20_1⟩ := xZ2 BK145.out))
 replace BK145 := xA (blk_drew BK145.out)
 replace HB := xA (below_drew1 HB.out)
 refine start_ (n := 8) (S := fun w' => w'.cell? ⟨gb145, 0, none⟩ = some (.int .i64 a0_0) ∧ w'.cell? ⟨gb145, 1, none⟩ = some (.bool false)) (ds := []) x3a0 (by kernel_rfl) rfl rfl ⟨(blk_cell BK145.out 0).trans rfl, (blk_cell BK145.out 1).trans rfl⟩ (fun hHeld => ?_); refine with_tabW spec_wdFit.tab2 spec_wdFit.bits2 (fun HT_ HW_ => ?_)
 generalize w19.drew = w21 at BK145 HB hHeld ⊢
 refine xP 4 13 x3a1 ?_
 refine xT2 hHeld 0 9 x3a2 ?_
 refine xT2 hHeld 2 11 x3a3 ?_
 refine xU 1 10 x3a4 (fun K hK => ?_)
 refine xY Tryd.func115 #[.agg #[.int .i64 a0_0, .bool false]] ?_
 with_reducible refine (spec_wdHigh.calls a0_0 false t147 _ A15.out).mono ?_
 rintro e w22 ⟨rfl, hb⟩
 refine ⟨_, rfl, ?_⟩
 replace BK145 := xkb BK145 hb
 replace HB := xA (below_step (xB1 GE145.out HB.out) hb)
 (try clear hb); (try clear hb2); (try clear hk); (try clear hi)
 refine hK.out _ _ ⟨(blk_cell BK145.out 0).trans rfl, (blk_cell BK145.out 1).trans rfl⟩ (fun hHeld => ?_)
 clear hK K
 refine xN ?_
 refine xU 3 12 x3a5 (fun K hK => ?_)
 refine xY Tryd.func117 #[.agg #[.int .i64 a0_0, .bool false]] ?_
 with_reducible refine (spec_wdLow.calls a0_0 false t148 _ A16.out).mono ?_
 rintro e w23 ⟨rfl, hb⟩
 refine ⟨_, rfl, ?_⟩
 replace BK145 := xkb BK145 hb
 replace HB := xA (below_step (xB1 GE145.out HB.out) hb)
 (try clear hb); (try clear hb2); (try clear hk); (try clear hi)
 refine hK.out _ _ ⟨(blk_cell BK145.out 0).trans rfl, (blk_cell BK145.out 1).trans rfl⟩ (fun hHeld => ?_)
 clear hK K
 refine xN ?_
 refine xU 5 14 x3a6 (fun K hK => ?_)
 refine xY Tryd.func116 #[.int .i64 t148, .int .i64 a1] ?_
 with_reducible refine (spec_l1Most.calls t148 a1 t149 _ A17.out).mono ?_
 rintro e w' ⟨rfl, ⟨nd, rfl⟩⟩
 refine ⟨_, rfl, ?_⟩
 refine hK.out _ _ ⟨(blk_cell BK145.out 0).trans rfl, (blk_cell BK145.out 1).trans rfl⟩ (fun hHeld => ?_)
 clear hK K
 refine xN ?_
 refine xU 6 15 x3a7 (fun K hK => ?_)
 refine xY Tryd.func114 #[.int .i64 t147, .int .i64 t149] ?_
 with_reducible refine (spec_l1Least.calls t147 t149 t150 _ A18.out).mono ?_
 rintro e w' ⟨rfl, ⟨nd, rfl⟩⟩
 refine ⟨_, rfl, ?_⟩
 refine hK.out _ _ ⟨(blk_cell BK145.out 0).trans rfl, (blk_cell BK145.out 1).trans rfl⟩ (fun hHeld => ?_)
 clear hK K
 refine xN ?_
 refine xP 7 4 x3a8 ?_
 refine xDn ?_
 try go_wp2
 go_ret
 exact ⟨xr, xB1 GE145.out HB.out⟩

/-! ### spec_foRun: function 95 -/
def spec_foRun.l0 : Nat → Int → List Int → Int → List Int → Int → Int → Int → Int → Int → Int → Bool → Option (List Int × Int)
 | 0, _, _, _, _, _, _, _, _, _, _, _ => none
 | k + 1, x1, x8, x9, x13, x14, x15, x152000, x152001, x152002, x152003, x152004 => if x15 < x14 then (if 0 ≤ x15 then (if x15 < (x13.length : Int) then ((spec_foRaw.f k x152000 x152001 x152002 x152003 x152004 x1 (rd x13 x15)).bind fun t153 => ((spec_wdFit.f x152003 x152004 t153).bind fun t154 => (if t154 = t153 then (if x8.length < 17592186044416 then (spec_foRun.l0 k t154 (x8 ++ [t154]) x9 x13 x14 (wrap64 (x15 + 1)) x152000 x152001 x152002 x152003 x152004) else (none)) else (if x8.length < 17592186044416 then (spec_foRun.l0 k t154 (x8 ++ [t154]) (wrap64 (x9 + 1)) x13 x14 (wrap64 (x15 + 1)) x152000 x152001 x152002 x152003 x152004) else (none))))) else (none)) else (none)) else (some (x8, x9))
def spec_foRun.f (k : Nat) (a0_0 : Int) (a0_1 : Int) (a0_2 : Int) (a0_3 : Int) (a0_4 : Bool) (a1 : Int) (l2 : List Int) : Option (List Int × Int) := spec_foRun.l0 k a1 ([] : List Int) 0 l2 (l2.length : Int) 0 a0_0 a0_1 a0_2 a0_3 a0_4
theorem spec_foRun.mono_l : ∀ k, (∀ y0 y1 y2 y3 y4 y5 y6 y7 y8 y9 y10, LeO (spec_foRun.l0 k y0 y1 y2 y3 y4 y5 y6 y7 y8 y9 y10) (spec_foRun.l0 (k + 1) y0 y1 y2 y3 y4 y5 y6 y7 y8 y9 y10))
 | 0 => fun _ _ _ _ _ _ _ _ _ _ _ r h => by simp [spec_foRun.l0] at h
 | k + 1 => by
  have ih0 := spec_foRun.mono_l k
  have m0 := @spec_foRaw.mono
  intros
  unfold spec_foRun.l0
  exact xM
theorem spec_foRun.mono : ∀ a0 a1 a2 a3 a4 a5 a6 k, LeO (spec_foRun.f k a0 a1 a2 a3 a4 a5 a6) (spec_foRun.f (k + 1) a0 a1 a2 a3 a4 a5 a6) := by
 intro a0 a1 a2 a3 a4 a5 a6 k
 have ih0 := spec_foRun.mono_l k
 have m0 := @spec_foRaw.mono
 unfold spec_foRun.f
 exact xM
set_option maxHeartbeats 200000000 in
set_option maxRecDepth 100000 in
theorem spec_foRun.calls (k : Nat) (a0_0 : Int) (a0_1 : Int) (a0_2 : Int) (a0_3 : Int) (a0_4 : Bool) (a1 : Int) (A2 : Option Addr) (c2 : Nat) (l2 : List Int) (r1 : List Int) (r2 : Int) (w : World) (hr2 : Kd.C (Kd.int .i64) w A2 l2.length l2) (hc2 : l2.length ≤ c2) (h : spec_foRun.f k a0_0 a0_1 a0_2 a0_3 a0_4 a1 l2 = some (r1, r2)) :
  Calls Tryd.prog 95 #[.agg #[.int .i64 a0_0, .int .i64 a0_1, .int .i64 a0_2, .int .i64 a0_3, .bool a0_4], .int .i64 a1, .slice A2 l2.length c2] w fun e w' => ∃ v0_ : Value, e = .returned (.tuple #[v0_, .int .i64 r2]) ∧ Kd.R (Kd.int .i64) 3 w' w.heap.size (fun _ => True) v0_ r1 ∧ Below w.heap.size w w' := by
 have hu79 := Tryd.underlying79
 have hu77 := Tryd.underlying77
 have HR2 := xA hr2
 have HC2 := xA hc2
 clear hr2 hc2
 have HB := xA (Below.refl w.heap.size w)
 have H : (spec_foRun.l0 k a1 ([] : List Int) 0 l2 (l2.length : Int) 0 a0_0 a0_1 a0_2 a0_3 a0_4) = some (r1, r2) := h
 clear h
 have H' := xA H
 clear H
 go_enter Tryd.func95, Tryd.ntmps95
 go_wp2_with (first | (refine xg 3 rfl ?_; refine xV 3 #[.int .i64 a0_0, .int .i64 a0_1, .int .i64 a0_2, .int .i64 a0_3, .bool a0_4] 79 ?_; intro gb151 hg w4 hbox hb; have BK151 := xA (hbox); have GW151 := xgw hg (below_size (xB HB.out)); have GE151 := GW151; replace HB := xA (below_step (xB HB.out) hb); clear hb hbox hg))
 go_loopg [1, 8, 9, 15] k (fun kq v1 v8 v9 v15 w' => ∃ (x1_1 : Int) (x8_1 : List Int) (x9_1 : Int) (x15_1 : Int), v1 = .int .i64 x1_1 ∧ v9 = .int .i64 x9_1 ∧ v15 = .int .i64 x15_1 ∧ Aside0 (spec_foRun.l0 kq x1_1 x8_1 x9_1 l2 (l2.length : Int) x15_1 a0_0 a0_1 a0_2 a0_3 a0_4 = some (r1, r2)) ∧ Aside0 (kq ≤ k) ∧ Aside0 (Kd.R (Kd.int .i64) 3 w' w.heap.size (fun _ => True) v8 x8_1) ∧ Aside0 (w'.heap[gb151]? = some (.cells #[.int .i64 a0_0, .int .i64 a0_1, .int .i64 a0_2, .int .i64 a0_3, .bool a0_4] 79 (0, 0))) ∧ Aside0 (Below w.heap.size w w'))
 case atStart => exact ⟨(a1), (([] : List Int)), (0), (0), xs, xs, xs, H', ⟨Nat.le_refl _⟩, ⟨by first | exact Kd.R_nil _ _ _ _ _ | exact Kd.N_nil _ _ _ _ _ | exact Kd.V_nil _ _ _ _ _ | exact Kd.Q_nil _ _ _ _ _ | exact Kd.S_nil _ _ _ _ _⟩, ⟨xK BK151.out⟩, ⟨xB1 GE151.out HB.out⟩⟩
 case round =>
  clear H'
  try clear c2
  obtain ⟨x1_1, x8_1, x9_1, x15_1, rfl, rfl, rfl, HA, HK1, HO_8, BK151, HB⟩ := hrel
  cases gk with
  | zero => exact absurd HA.out (by simp [spec_foRun.l0])
  | succ k1 =>
   have H := HA.out
   clear HA
   simp only [spec_foRun.l0] at H
   by_cases c5 : x15_1 < (l2.length : Int)
   rotate_left
   ·rw [if_neg c5] at H
    have c5b0 : decide (x15_1 < (l2.length : Int)) = false := decide_eq_false c5
    clear c5
    simp only [Option.some.injEq, Prod.mk.injEq] at H
    obtain ⟨rfl, rfl⟩ := H
    go_wp2
    go_ret2
    exact ⟨_, xr, xR HO_8.out, xB1 GE151.out HB.out⟩

   rw [if_pos c5] at H
   have c5b0 : decide (x15_1 < (l2.length : Int)) = true := decide_eq_true c5
   clear c5
   by_cases c6 : 0 ≤ x15_1
   rotate_left
   ·rw [if_neg c6] at H
    exact absurd H (by simp)
   rw [if_pos c6] at H
   have c6b0 : decide (0 ≤ x15_1) = true := decide_eq_true c6
   clear c6
   by_cases c7 : x15_1 < (l2.length : Int)
   rotate_left
   ·rw [if_neg c7] at H
    exact absurd H (by simp)
   rw [if_pos c7] at H
   have c7b0 : decide (x15_1 < (l2.length : Int)) = true := decide_eq_true c7
   clear c7
   obtain ⟨t153, A8, H⟩ := xO H
   (try dsimp only at H)
   obtain ⟨t154, A9, H⟩ := xO H
   (try dsimp only at H)
   by_cases c10 : t154 = t153
   rotate_left
   ·rw [if_neg c10] at H
    have c10b0 : (t154 == t153) = false := beq_eq_false_iff_ne.mpr c10
    have c10b1 : (t154 != t153) = true := bne_iff_ne.mpr c10
    by_cases c17 : x8_1.length < 17592186044416
    rotate_left
    ·rw [if_neg c17] at H
     exact absurd H (by simp)
    rw [if_pos c17] at H
    have LMc17 := xA c17
    clear c17
    obtain ⟨y158, hy158⟩ : ∃ y_ : List Int, y_ = (x8_1 ++ [t154]) := ⟨_, rfl⟩
    replace H : (spec_foRun.l0 k1 t154 y158 (wrap64 (x9_1 + 1)) l2 (l2.length : Int) (wrap64 (x15_1 + 1)) a0_0 a0_1 a0_2 a0_3 a0_4) = some (r1, r2) := by first | (rw [hy158]; with_reducible exact H) | (have H2_ := (Option.bind_some _ _).symm.trans H; rw [hy158]; with_reducible exact H2_) | (have H2_ := (Option.bind_some _ _).symm.trans H; with_reducible exact H2_) | with_reducible exact H | (rw [hy158]; exact H) | exact H
    have Ny158 := xA hy158
    clear hy158
    have H' := xA H
    clear H
    have p152 : 0 ≤ (x15_1 : Int) := of_decide_eq_true (by first | (with_reducible assumption) | assumption)
    have q152 : x15_1 < (l2.length : Int) := of_decide_eq_true (by first | (with_reducible assumption) | assumption)
    obtain ⟨ad152, e152, hx152_0⟩ := Kd.at_int HR2.out x15_1 p152 q152
    cases e152
    replace hx152_0 := (HB.out.cell (World.block_lt_of_cell? w _ hx152_0)).trans hx152_0
    replace p152 := eq_true p152
    replace q152 := eq_true q152
    replace hz151 := blk_cell BK151.out; replace hy151 := blk_frozen BK151.out
    go_wp2_with (first | (refine xq rfl ?_; first | (refine xG (some 22) Tryd.func107 #[.agg #[.int .i64 a0_0, .int .i64 a0_1, .int .i64 a0_2, .int .i64 a0_3, .bool a0_4], .int .i64 x1_1, .int .i64 (rd l2 x15_1)] ?_; (with_reducible refine (spec_foRaw.calls k1 a0_0 a0_1 a0_2 a0_3 a0_4 x1_1 (rd l2 x15_1) t153 _ A8.out).mono ?_); rintro e w19 ⟨rfl, hb⟩; refine ⟨_, rfl, ?_⟩; replace HO_8 := xA (Kd.R_below (xR HO_8.out) hb); replace BK151 := xkb BK151 hb; replace HB := xA (below_step (xB1 GE151.out HB.out) hb); (try clear hb); obtain ⟨hcz20_0, hcz20_1, hcz20_2, hcz20_3, hcz20_4, hfz20_0, hfz20_1, hfz20_2, hfz20_3, hfz20_4⟩ := xZ5 BK151.out) | (refine xG (some 26) Tryd.func108 #[.agg #[.int .i64 a0_3, .bool a0_4], .int .i64 t153] ?_; (with_reducible refine (spec_wdFit.calls a0_3 a0_4 t153 t154 _ A9.out).mono ?_); rintro e w21 ⟨rfl, hb⟩; refine ⟨_, rfl, ?_⟩; replace HO_8 := xA (Kd.R_below (xR HO_8.out) hb); replace BK151 := xkb BK151 hb; replace HB := xA (below_step (xB1 GE151.out HB.out) hb); (try clear hb))) | ((with_reducible refine gate_builtin (b := .append) (xs := #[.tmp 32, .tmp 34]) rfl ?_); at_builtin; refine Kd.R_append (Kd.int .i64) (w0 := w) w.heap.size rfl (.tmp 32) (.tmp 34) 24 3 (.int .i64 0) 8 rfl Tryd.underlying24 info3 rfl (by decide) (by omega) u8 x8_1 t154 [.int .i64 t154] (fun _ => True) (fun _ => False) rfl rfl ?aP (fun _ hk => hk.elim) ?aF ?aO ?aB ?aS ?aL ?_; (case aP => exact rfl); (case aB => exact (xB1 GE151.out HB.out)); (case aF => exact (fun _ _ => trivial)); (case aO => exact (xR HO_8.out)); (case aS => exact (below_size (xB1 GE151.out HB.out))); (case aL => have := LMc17.out; omega); intro v159 w22 ho hb hg hat; rw [← Ny158.out] at ho; replace BK151 := xA (blk_grown (xK BK151.out) hg (Kd.R_ne HO_8.out BK151.out (by decide))); replace HB := xA (hb); have HO160 := xA (ho); clear HO_8; clear ho hb hg hat))
    go_roundg k1
    case measure => have := HK1.out; omega
    case rel => exact ⟨(t154), (y158), (wrap64 (x9_1 + 1)), (wrap64 (x15_1 + 1)), xs, xs, xs, H', ⟨by have := HK1.out; omega⟩, ⟨xR HO160.out⟩, ⟨xK BK151.out⟩, ⟨xB1 GE151.out HB.out⟩⟩
   rw [if_pos c10] at H
   have c10b0 : (t154 == t153) = true := beq_iff_eq.mpr c10
   have c10b1 : (t154 != t153) = false := bne_eq_false_iff_eq.mpr c10
   clear c10
   by_cases c11 : x8_1.length < 17592186044416
   rotate_left
   ·rw [if_neg c11] at H
    exact absurd H (by simp)
   rw [if_pos c11] at H
   have LMc11 := xA c11
   clear c11
   obtain ⟨y155, hy155⟩ : ∃ y_ : List Int, y_ = (x8_1 ++ [t154]) := ⟨_, rfl⟩
   replace H : (spec_foRun.l0 k1 t154 y155 x9_1 l2 (l2.length : Int) (wrap64 (x15_1 + 1)) a0_0 a0_1 a0_2 a0_3 a0_4) = some (r1, r2) := by first | (rw [hy155]; with_reducible exact H) | (have H2_ := (Option.bind_some _ _).symm.trans H; rw [hy155]; with_reducible exact H2_) | (have H2_ := (Option.bind_some _ _).symm.trans H; with_reducible exact H2_) | with_reducible exact H | (rw [hy155]; exact H) | exact H
   have Ny155 := xA hy155
   clear hy155
   have H' := xA H
   clear H
   have p152 : 0 ≤ (x15_1 : Int) := of_decide_eq_true (by first | (with_reducible assumption) | assumption)
   have q152 : x15_1 < (l2.length : Int) := of_decide_eq_true (by first | (with_reducible assumption) | assumption)
   obtain ⟨ad152, e152, hx152_0⟩ := Kd.at_int HR2.out x15_1 p152 q152
   cases e152
   replace hx152_0 := (HB.out.cell (World.block_lt_of_cell? w _ hx152_0)).trans hx152_0
   replace p152 := eq_true p152
   replace q152 := eq_true q152
   replace hz151 := blk_cell BK151.out; replace hy151 := blk_frozen BK151.out
   go_wp2_with (first | (refine xq rfl ?_; first | (refine xG (some 22) Tryd.func107 #[.agg #[.int .i64 a0_0, .int .i64 a0_1, .int .i64 a0_2, .int .i64 a0_3, .bool a0_4], .int .i64 x1_1, .int .i64 (rd l2 x15_1)] ?_; (with_reducible refine (spec_foRaw.calls k1 a0_0 a0_1 a0_2 a0_3 a0_4 x1_1 (rd l2 x15_1) t153 _ A8.out).mono ?_); rintro e w13 ⟨rfl, hb⟩; refine ⟨_, rfl, ?_⟩; replace HO_8 := xA (Kd.R_below (xR HO_8.out) hb); replace BK151 := xkb BK151 hb; replace HB := xA (below_step (xB1 GE151.out HB.out) hb); (try clear hb); replace hz151 := blk_cell BK151.out; replace hy151 := blk_frozen BK151.out) | (refine xG (some 26) Tryd.func108 #[.agg #[.int .i64 a0_3, .bool a0_4], .int .i64 t153] ?_; (with_reducible refine (spec_wdFit.calls a0_3 a0_4 t153 t154 _ A9.out).mono ?_); rintro e w15 ⟨rfl, hb⟩; refine ⟨_, rfl, ?_⟩; replace HO_8 := xA (Kd.R_below (xR HO_8.out) hb); replace BK151 := xkb BK151 hb; replace HB := xA (below_step (xB1 GE151.out HB.out) hb); (try clear hb))) | ((with_reducible refine gate_builtin (b := .append) (xs := #[.tmp 32, .tmp 34]) rfl ?_); at_builtin; refine Kd.R_append (Kd.int .i64) (w0 := w) w.heap.size rfl (.tmp 32) (.tmp 34) 24 3 (.int .i64 0) 8 rfl Tryd.underlying24 info3 rfl (by decide) (by omega) u8 x8_1 t154 [.int .i64 t154] (fun _ => True) (fun _ => False) rfl rfl ?aP (fun _ hk => hk.elim) ?aF ?aO ?aB ?aS ?aL ?_; (case aP => exact rfl); (case aB => exact (xB1 GE151.out HB.out)); (case aF => exact (fun _ _ => trivial)); (case aO => exact (xR HO_8.out)); (case aS => exact (below_size (xB1 GE151.out HB.out))); (case aL => have := LMc11.out; omega); intro v156 w16 ho hb hg hat; rw [← Ny155.out] at ho; replace BK151 := xA (blk_grown (xK BK151.out) hg (Kd.R_ne HO_8.out BK151.out (by decide))); replace HB := xA (hb); have HO157 := xA (ho); clear HO_8; clear ho hb hg hat))
   go_roundg k1
   case measure => have := HK1.out; omega
   case rel => exact ⟨(t154), (y155), (x9_1), (wrap64 (x15_1 + 1)), xs, xs, xs, H', ⟨by have := HK1.out; omega⟩, ⟨xR HO157.out⟩, ⟨xK BK151.out⟩, ⟨xB1 GE151.out HB.out⟩⟩
/-! ### spec_chAll: function 81 -/
def spec_chAll.l0 : Nat → List (List Int) → List (S79) → Int → Int → Option ((List (List Int)))
 | 0, _, _, _, _ => none
 | k + 1, x5, x13, x14, x15 => if x15 < x14 then (if 0 ≤ x15 then (if x15 < (x13.length : Int) then (if 0 ≤ (wrap64 ((x5.length : Int) - 1)) then (if (wrap64 ((x5.length : Int) - 1)) < (x5.length : Int) then ((spec_foRun.f k ((rd_T79 x13 x15).f0) ((rd_T79 x13 x15).f1) ((rd_T79 x13 x15).f2) ((rd_T79 x13 x15).f3.f0) ((rd_T79 x13 x15).f3.f1) 0 (rd_L6 x5 (wrap64 ((x5.length : Int) - 1)))).bind fun bt170 => (if x5.length < 5864062014805 then (spec_chAll.l0 k (x5 ++ [bt170.1]) x13 x14 (wrap64 (x15 + 1))) else (none))) else (none)) else (none)) else (none)) else (none)) else (some x5)
def spec_chAll.f (k : Nat) (l0 : List (S79)) (l1 : List Int) : Option ((List (List Int))) := (spec_l1Own.f l1).bind fun t161 => (spec_chAll.l0 k (([t161] : List (List Int))) l0 (l0.length : Int) 0)
theorem spec_chAll.mono_l : ∀ k, (∀ y0 y1 y2 y3, LeO (spec_chAll.l0 k y0 y1 y2 y3) (spec_chAll.l0 (k + 1) y0 y1 y2 y3))
 | 0 => fun _ _ _ _ r h => by simp [spec_chAll.l0] at h
 | k + 1 => by
  have ih0 := spec_chAll.mono_l k
  have m0 := @spec_foRun.mono
  intros
  unfold spec_chAll.l0
  exact xM
theorem spec_chAll.mono : ∀ a0 a1 k, LeO (spec_chAll.f k a0 a1) (spec_chAll.f (k + 1) a0 a1) := by
 intro a0 a1 k
 have ih0 := spec_chAll.mono_l k
 have m0 := @spec_foRun.mono
 unfold spec_chAll.f
 exact xM
def spec_chAll.T5 : Bool × List (List Nat × List Nat) := (true, [([], []), ([], []), ([], []), ([2], [2]), ([3], [3]), ([1, 4], [1, 4]), ([5], [5]), ([0, 6], [0, 6]), ([7], [7]), ([8], [8]), ([8], [8]), ([9, 7, 0, 1, 2, 3, 4, 5, 6, 7, 8, 9], [9]), ([10, 11, 0, 1, 2, 3, 4, 5, 6, 7, 8, 9, 10, 11], [10])])
def spec_chAll.B5 : List Nat := [0, 0, 0, 4, 12, 30, 62, 127, 255, 511, 511, 1023, 4095]
theorem spec_chAll.tab5 : rtab .any (opsOf Tryd.f81 5) = spec_chAll.T5 := by kernel_rfl
theorem spec_chAll.bits5 : waitsOk spec_chAll.T5.2 spec_chAll.B5 = true := by kernel_rfl
set_option maxHeartbeats 200000000 in
set_option maxRecDepth 100000 in
theorem spec_chAll.calls (k : Nat) (A0 : Option Addr) (c0 : Nat) (l0 : List (S79)) (A1 : Option Addr) (c1 : Nat) (l1 : List Int) (r : List (List Int)) (w : World) (hr0 : Kd.C k79 w A0 l0.length l0) (hc0 : l0.length ≤ c0) (hr1 : Kd.C (Kd.int .i64) w A1 l1.length l1) (hc1 : l1.length ≤ c1) (h : spec_chAll.f k l0 l1 = some r) :
  Calls Tryd.prog 81 #[.slice A0 l0.length c0, .slice A1 l1.length c1] w fun e w' => ∃ v0_ : Value, e = .returned (v0_) ∧ Kd.S (Kd.slice 3 (Kd.int .i64)) 24 w' w.heap.size (fun _ => True) v0_ r ∧ Below w.heap.size w w' := by
 have hu79 := Tryd.underlying79
 have HR0 := xA hr0
 have HC0 := xA hc0
 clear hr0 hc0
 have HR1 := xA hr1
 have HC1 := xA hc1
 clear hr1 hc1
 have HB := xA (Below.refl w.heap.size w)
 have H : ((spec_l1Own.f l1).bind fun t161 => (spec_chAll.l0 k (([t161] : List (List Int))) l0 (l0.length : Int) 0)) = some r := h
 clear h
 obtain ⟨t161, A3, H⟩ := xO H
 (try dsimp only at H)
 obtain ⟨y164, hy164⟩ : ∃ y_ : List (List Int), y_ = (([t161] : List (List Int))) := ⟨_, rfl⟩
 replace H : (spec_chAll.l0 k y164 l0 (l0.length : Int) 0) = some r := by first | (rw [hy164]; with_reducible exact H) | (have H2_ := (Option.bind_some _ _).symm.trans H; rw [hy164]; with_reducible exact H2_) | (have H2_ := (Option.bind_some _ _).symm.trans H; with_reducible exact H2_) | with_reducible exact H | (rw [hy164]; exact H) | exact H
 have Ny164 := xA hy164
 clear hy164
 have H' := xA H
 clear H
 go_enter Tryd.func81, Tryd.ntmps81
 go_wp2_with (first | (refine xG (some 11) Tryd.func80 #[.slice A1 l1.length c1] ?_; (with_reducible refine (spec_l1Own.calls _ _ l1 t161 _ ?side1 ?side2 A3.out).mono ?_); (case side1 => exact xC HR1.out); (case side2 => exact HC1.out); rintro e w4 ⟨v162, rfl, ho0, hb⟩; refine ⟨_, rfl, ?_⟩; have HO163 := xA (Kd.R_lower ho0 (below_size (xB HB.out))); replace HB := xA (below_step (xB HB.out) hb); (try clear hb); (try clear ho0); obtain ⟨Ao5, co5, eo5⟩ := Kd.R_slice HO163.out; subst eo5) | ((with_reducible refine gate_dst (N := 12) rfl ?_); refine Kd.S_lits (Kd.slice 3 (Kd.int .i64)) w.heap.size 24 ?hg (N := 12) ?hd (xs := ([t161] : List (List Int))) (inner := [.slice Ao5 t161.length co5]) (ok := fun _ => True) (fun j_ _ => j_ = 0) ?hr rfl ?hp (fun _ _ _ h1_ h2_ => h1_.trans h2_.symm) (fun _ _ _ => trivial) trivial (Below.refl _ _) (below_size (xB HB.out)) (by simp) ?_; (case hd => rfl); (case hg => rfl); (case hr => first | (go_simp; done) | (go_simp; rfl)); (case hp => (intro j_ x_ hx_; match j_, hx_ with | 0, hx_ => (obtain rfl := Option.some.inj hx_; exact (show Kd.M (Kd.slice 3 (Kd.int .i64)) _ _ _ t161 [.slice Ao5 t161.length co5] from ⟨_, rfl, Kd.R_mono (xR HO163.out) (fun _ _ => rfl)⟩)) | _ + 1, hx_ => simp at hx_)); intro v165 w6 ho7 hbx_ hg_ hnew_; have hb : Below _ _ w6 := ⟨hg_.1, hg_.2, hg_.3, hg_.4, fun i_ hi_ => hg_.5 i_ hi_ (by simp)⟩; clear hbx_ hg_ hnew_; (first | rw [← Ny164.out] at ho7 | (simp only [Int.reduceToNat] at ho7; rw [← Ny164.out] at ho7)); replace HB := xA (below_step (xB HB.out) hb); have HO166 := xA (ho7); clear HO163; clear hb ho7))
 go_loopg [5, 15] k (fun kq v5 v15 w' => ∃ (x5_1 : List (List Int)) (x15_1 : Int), v15 = .int .i64 x15_1 ∧ Aside0 (spec_chAll.l0 kq x5_1 l0 (l0.length : Int) x15_1 = some r) ∧ Aside0 (kq ≤ k) ∧ Aside0 (Kd.S (Kd.slice 3 (Kd.int .i64)) 24 w' w.heap.size (fun _ => True) v5 x5_1) ∧ Aside0 (Below w.heap.size w w'))
 case atStart => exact ⟨(y164), (0), xs, H', ⟨Nat.le_refl _⟩, ⟨xS HO166.out⟩, ⟨xB HB.out⟩⟩
 case round =>
  clear H'
  try clear c1
  obtain ⟨x5_1, x15_1, rfl, HA, HK1, HO_5, HB⟩ := hrel
  cases gk with
  | zero => exact absurd HA.out (by simp [spec_chAll.l0])
  | succ k1 =>
   have H := HA.out
   clear HA
   simp only [spec_chAll.l0] at H
   by_cases c8 : x15_1 < (l0.length : Int)
   rotate_left
   ·rw [if_neg c8] at H
    have c8b0 : decide (x15_1 < (l0.length : Int)) = false := decide_eq_false c8
    clear c8
    obtain rfl := Option.some.inj H
    go_wp2
    go_ret
    exact ⟨_, xr, xS HO_5.out, xB HB.out⟩

   rw [if_pos c8] at H
   have c8b0 : decide (x15_1 < (l0.length : Int)) = true := decide_eq_true c8
   clear c8
   by_cases c9 : 0 ≤ x15_1
   rotate_left
   ·rw [if_neg c9] at H
    exact absurd H (by simp)
   rw [if_pos c9] at H
   have c9b0 : decide (0 ≤ x15_1) = true := decide_eq_true c9
   clear c9
   by_cases c10 : x15_1 < (l0.length : Int)
   rotate_left
   ·rw [if_neg c10] at H
    exact absurd H (by simp)
   rw [if_pos c10] at H
   have c10b0 : decide (x15_1 < (l0.length : Int)) = true := decide_eq_true c10
   clear c10
   obtain ⟨ji11, hji11⟩ : ∃ j_ : Int, (wrap64 ((x5_1.length : Int) - 1)) = j_ := ⟨_, rfl⟩
   (first | rw [hji11] at H | simp only [hji11] at H)
   have hji11w : (IntKind.i64.wrap ((x5_1.length : Int) - 1)) = ji11 := (i64_w _).trans hji11
   by_cases c12 : 0 ≤ (ji11)
   rotate_left
   ·rw [if_neg c12] at H
    exact absurd H (by simp)
   rw [if_pos c12] at H
   have c12b0 : decide (0 ≤ (ji11)) = true := decide_eq_true c12
   clear c12
   by_cases c13 : (ji11) < (x5_1.length : Int)
   rotate_left
   ·rw [if_neg c13] at H
    exact absurd H (by simp)
   rw [if_pos c13] at H
   have c13b0 : decide ((ji11) < (x5_1.length : Int)) = true := decide_eq_true c13
   clear c13
   replace H := Option.bind_eq_some_iff.mp H
   obtain ⟨⟨t170, t173⟩, A140, H⟩ := H
   (try dsimp only at H)
   have A14 := xA A140
   clear A140
   by_cases c15 : x5_1.length < 5864062014805
   rotate_left
   ·rw [if_neg c15] at H
    exact absurd H (by simp)
   rw [if_pos c15] at H
   have LMc15 := xA c15
   clear c15
   obtain ⟨y174, hy174⟩ : ∃ y_ : List (List Int), y_ = (x5_1 ++ [t170]) := ⟨_, rfl⟩
   replace H : (spec_chAll.l0 k1 y174 l0 (l0.length : Int) (wrap64 (x15_1 + 1))) = some r := by first | (rw [hy174]; with_reducible exact H) | (have H2_ := (Option.bind_some _ _).symm.trans H; rw [hy174]; with_reducible exact H2_) | (have H2_ := (Option.bind_some _ _).symm.trans H; with_reducible exact H2_) | with_reducible exact H | (rw [hy174]; exact H) | exact H
   have Ny174 := xA hy174
   clear hy174
   have H' := xA H
   clear H
   have p167 : 0 ≤ (x15_1 : Int) := of_decide_eq_true (by first | (with_reducible assumption) | assumption)
   have q167 : x15_1 < (l0.length : Int) := of_decide_eq_true (by first | (with_reducible assumption) | assumption)
   obtain ⟨ad167, e167, hx167_0, hx167_1, hx167_2, hx167_3, hx167_4⟩ := at_T79 HR0.out x15_1 p167 q167
   cases e167
   replace hx167_0 := (HB.out.cell (World.block_lt_of_cell? w _ hx167_0)).trans hx167_0
   replace hx167_1 := (HB.out.cell (World.block_lt_of_cell? w _ hx167_1)).trans hx167_1
   replace hx167_2 := (HB.out.cell (World.block_lt_of_cell? w _ hx167_2)).trans hx167_2
   replace hx167_3 := (HB.out.cell (World.block_lt_of_cell? w _ hx167_3)).trans hx167_3
   replace hx167_4 := (HB.out.cell (World.block_lt_of_cell? w _ hx167_4)).trans hx167_4
   replace p167 := eq_true p167
   replace q167 := eq_true q167
   try go_wp2_with (first | (refine xg 7 rfl ?_; refine xV 7 #[.int .i64 0, .int .i64 0, .int .i64 0, .int .i64 0, .bool false] 79 ?_; intro gb168 hg w16 hbox hb; replace HO_5 := xA (Kd.S_below (xS HO_5.out) hb); have BK168 := xA (hbox); have GW168 := xgw hg (below_size (xB HB.out)); have GE168 := GW168; replace HB := xA (below_step (xB HB.out) hb); clear hb hbox hg; replace hz168 := blk_cell BK168.out; replace hy168 := blk_frozen BK168.out))
   have n0_ : Aside0 (Kd.S (Kd.slice 3 (Kd.int .i64)) 24 (((((w16.setCell ⟨gb168, 0, none⟩ (.int .i64 ((rd_T79 l0 x15_1).f0))).setCell ⟨gb168, 1, none⟩ (.int .i64 ((rd_T79 l0 x15_1).f1))).setCell ⟨gb168, 2, none⟩ (.int .i64 ((rd_T79 l0 x15_1).f2))).setCell ⟨gb168, 3, none⟩ (.int .i64 ((rd_T79 l0 x15_1).f3.f0))).setCell ⟨gb168, 4, none⟩ (.bool ((rd_T79 l0 x15_1).f3.f1))) w.heap.size (fun _ => True) u5 x5_1) := ⟨by (with_reducible repeat (first | apply Kd.S_alloc | apply Kd.S_drewN | apply Kd.S_drew)); exact Kd.S_mono (Kd.S_far (p := ⟨gb168, 4, none⟩) (Kd.S_far (p := ⟨gb168, 3, none⟩) (Kd.S_far (p := ⟨gb168, 2, none⟩) (Kd.S_far (p := ⟨gb168, 1, none⟩) (Kd.S_far (p := ⟨gb168, 0, none⟩) (Kd.S_types HO_5.out BK168.out (by decide)) (fun _ hk => hk.2) (.int .i64 ((rd_T79 l0 x15_1).f0))) (fun _ hk => hk.2) (.int .i64 ((rd_T79 l0 x15_1).f1))) (fun _ hk => hk.2) (.int .i64 ((rd_T79 l0 x15_1).f2))) (fun _ hk => hk.2) (.int .i64 ((rd_T79 l0 x15_1).f3.f0))) (fun _ hk => hk.2) (.bool ((rd_T79 l0 x15_1).f3.f1))) (fun _ hk => trivial)⟩
   have n1_ : Aside0 ((((((w16.setCell ⟨gb168, 0, none⟩ (.int .i64 ((rd_T79 l0 x15_1).f0))).setCell ⟨gb168, 1, none⟩ (.int .i64 ((rd_T79 l0 x15_1).f1))).setCell ⟨gb168, 2, none⟩ (.int .i64 ((rd_T79 l0 x15_1).f2))).setCell ⟨gb168, 3, none⟩ (.int .i64 ((rd_T79 l0 x15_1).f3.f0))).setCell ⟨gb168, 4, none⟩ (.bool ((rd_T79 l0 x15_1).f3.f1))).heap[gb168]? = some (.cells #[.int .i64 ((rd_T79 l0 x15_1).f0), .int .i64 ((rd_T79 l0 x15_1).f1), .int .i64 ((rd_T79 l0 x15_1).f2), .int .i64 ((rd_T79 l0 x15_1).f3.f0), .bool ((rd_T79 l0 x15_1).f3.f1)] 79 (0, 0))) := ⟨by (with_reducible repeat (first | refine blk_drewN ?_ _ | refine blk_drew ?_ | refine blk_alloc ?_ _)); refine blk_put (cs := #[.int .i64 ((rd_T79 l0 x15_1).f0), .int .i64 ((rd_T79 l0 x15_1).f1), .int .i64 ((rd_T79 l0 x15_1).f2), .int .i64 ((rd_T79 l0 x15_1).f3.f0), .bool false]) ?_ 4 _ rfl; (with_reducible repeat (first | refine blk_drewN ?_ _ | refine blk_drew ?_ | refine blk_alloc ?_ _)); refine blk_put (cs := #[.int .i64 ((rd_T79 l0 x15_1).f0), .int .i64 ((rd_T79 l0 x15_1).f1), .int .i64 ((rd_T79 l0 x15_1).f2), .int .i64 0, .bool false]) ?_ 3 _ rfl; (with_reducible repeat (first | refine blk_drewN ?_ _ | refine blk_drew ?_ | refine blk_alloc ?_ _)); refine blk_put (cs := #[.int .i64 ((rd_T79 l0 x15_1).f0), .int .i64 ((rd_T79 l0 x15_1).f1), .int .i64 0, .int .i64 0, .bool false]) ?_ 2 _ rfl; (with_reducible repeat (first | refine blk_drewN ?_ _ | refine blk_drew ?_ | refine blk_alloc ?_ _)); refine blk_put (cs := #[.int .i64 ((rd_T79 l0 x15_1).f0), .int .i64 0, .int .i64 0, .int .i64 0, .bool false]) ?_ 1 _ rfl; (with_reducible repeat (first | refine blk_drewN ?_ _ | refine blk_drew ?_ | refine blk_alloc ?_ _)); refine blk_put (cs := #[.int .i64 0, .int .i64 0, .int .i64 0, .int .i64 0, .bool false]) ?_ 0 _ rfl; (with_reducible repeat (first | refine blk_drewN ?_ _ | refine blk_drew ?_ | refine blk_alloc ?_ _)); exact BK168.out⟩
   have n2_ : Aside0 (Below w.heap.size w (((((w16.setCell ⟨gb168, 0, none⟩ (.int .i64 ((rd_T79 l0 x15_1).f0))).setCell ⟨gb168, 1, none⟩ (.int .i64 ((rd_T79 l0 x15_1).f1))).setCell ⟨gb168, 2, none⟩ (.int .i64 ((rd_T79 l0 x15_1).f2))).setCell ⟨gb168, 3, none⟩ (.int .i64 ((rd_T79 l0 x15_1).f3.f0))).setCell ⟨gb168, 4, none⟩ (.bool ((rd_T79 l0 x15_1).f3.f1)))) := ⟨xB1 GE168.out HB.out⟩
   (try clear HO_5)
   (try clear BK168)
   (try clear HB)
   generalize (((((w16.setCell ⟨gb168, 0, none⟩ (.int .i64 ((rd_T79 l0 x15_1).f0))).setCell ⟨gb168, 1, none⟩ (.int .i64 ((rd_T79 l0 x15_1).f1))).setCell ⟨gb168, 2, none⟩ (.int .i64 ((rd_T79 l0 x15_1).f2))).setCell ⟨gb168, 3, none⟩ (.int .i64 ((rd_T79 l0 x15_1).f3.f0))).setCell ⟨gb168, 4, none⟩ (.bool ((rd_T79 l0 x15_1).f3.f1))) = w18 at n0_ n1_ n2_ ⊢
   have HO_5 := n0_
   have BK168 := n1_
   have HB := n2_
   clear n0_ n1_ n2_
   replace HO_5 := xA (Kd.S_drew HO_5.out)
   replace BK168 := xA (blk_drew BK168.out)
   replace HB := xA (below_drew1 HB.out)
   obtain ⟨Ao20, co20, eo20⟩ := Kd.S_slice HO_5.out
   (first | subst eo20 | (injection eo20 with f1_ f2_ f3_; have f4_ := f1_.symm; have f5_ := f3_.symm; clear f1_ f2_ f3_; subst f4_; subst f5_))
   have p169 : 0 ≤ ((ji11) : Int) := of_decide_eq_true (by first | (with_reducible assumption) | assumption | (rw [← hji11]; first | (with_reducible assumption) | assumption))
   have q169 : (ji11) < (x5_1.length : Int) := of_decide_eq_true (by first | (with_reducible assumption) | assumption | (rw [← hji11]; first | (with_reducible assumption) | assumption))
   obtain ⟨ad169, A169_0, c169_0, e169, hx169_0, hl169_0, hi169_0⟩ := at_L6 (Kd.S_reads' HO_5.out).2.2 (ji11) p169 q169
   cases e169
   obtain ⟨ce169, hce169, hMe169, hcc169⟩ := Kd.S_get HO_5.out [] (ji11) p169 (by first | exact q169 | exact of_decide_eq_true (by first | (with_reducible assumption) | assumption) | (have e_ := (Kd.S_reads' HO_5.out).1; omega))
   obtain ⟨ve169_0, rfl, ge169_0⟩ := hMe169
   have hv169_0 := hcc169 0 _ rfl
   rw [Nat.add_zero, show ((Kd.slice 3 (Kd.int .i64))).sz = 1 from rfl, Nat.mul_one] at hv169_0
   replace hv169_0 := Option.some.inj (hv169_0.symm.trans hx169_0)
   rw [hv169_0] at ge169_0
   have HL169_0 := xA (show Kd.R (Kd.int .i64) 3 _ _ _ _ (rd_L6 x5_1 (ji11)) from ge169_0)
   clear hv169_0 ge169_0
   clear hcc169 hce169
   have HR169_0 := xA hi169_0
   have HC169_0 := xA hl169_0
   clear hi169_0 hl169_0
   replace p169 := eq_true p169
   replace q169 := eq_true q169
   refine start_ (n := 13) (S := fun w' => w'.cell? ⟨gb168, 0, none⟩ = some (.int .i64 ((rd_T79 l0 x15_1).f0)) ∧ w'.cell? ⟨gb168, 1, none⟩ = some (.int .i64 ((rd_T79 l0 x15_1).f1)) ∧ w'.cell? ⟨gb168, 2, none⟩ = some (.int .i64 ((rd_T79 l0 x15_1).f2)) ∧ w'.cell? ⟨gb168, 3, none⟩ = some (.int .i64 ((rd_T79 l0 x15_1).f3.f0)) ∧ w'.cell? ⟨gb168, 4, none⟩ = some (.bool ((rd_T79 l0 x15_1).f3.f1)) ∧ w'.cell? (ad169.add ((ji11)).toNat) = some (.slice A169_0 (rd_L6 x5_1 (ji11)).length c169_0)) (ds := []) x3a9 (by kernel_rfl) rfl rfl ⟨(blk_cell BK168.out 0).trans rfl, (blk_cell BK168.out 1).trans rfl, (blk_cell BK168.out 2).trans rfl, (blk_cell BK168.out 3).trans rfl, (blk_cell BK168.out 4).trans rfl, hx169_0⟩ (fun hHeld => ?_); refine with_tabW spec_chAll.tab5 spec_chAll.bits5 (fun HT_ HW_ => ?_)
   generalize w18.drew = w19 at HO_5 BK168 HB HL169_0 HR169_0 hx169_0 hHeld ⊢
   refine xP 1 21 x3a10 ?_
   refine xP 2 22 x3a11 ?_
   refine xP 3 23 x3a12 ?_
   refine xP 4 24 x3a13 ?_
   refine xP 5 25 x3a14 ?_
   refine xT6 hHeld 0 20 x3a15 ?_
   refine xT6 hHeld 6 26 x3a16 ?_
   refine xU 7 27 x3a17 (fun K hK => ?_)
   refine xY1 hji11 Tryd.func95 #[.agg #[.int .i64 ((rd_T79 l0 x15_1).f0), .int .i64 ((rd_T79 l0 x15_1).f1), .int .i64 ((rd_T79 l0 x15_1).f2), .int .i64 ((rd_T79 l0 x15_1).f3.f0), .bool ((rd_T79 l0 x15_1).f3.f1)], .int .i64 0, .slice A169_0 (rd_L6 x5_1 (ji11)).length c169_0] ?_
   with_reducible refine (spec_foRun.calls k1 ((rd_T79 l0 x15_1).f0) ((rd_T79 l0 x15_1).f1) ((rd_T79 l0 x15_1).f2) ((rd_T79 l0 x15_1).f3.f0) ((rd_T79 l0 x15_1).f3.f1) 0 _ _ (rd_L6 x5_1 (ji11)) t170 t173 _ ?side1 ?side2 A14.out).mono ?_
   (case side1 => repeat (first | exact (by repeat (first | (with_reducible exact HR169_0.out) | (with_reducible refine Kd.C_alloc ?_ _) | (with_reducible refine Kd.C_drewN ?_ _) | (with_reducible refine Kd.C_drew ?_) | exact HR169_0.out)) | (with_reducible refine Kd.C_alloc ?_ _) | (with_reducible refine Kd.C_drewN ?_ _) | (with_reducible refine Kd.C_drew ?_)))
   (case side2 => exact HC169_0.out)
   rintro e w21 ⟨v171, rfl, ho0, hb⟩
   have HS5_ := (hb.cell (World.block_lt_of_cell? _ _ (hHeld.2.2.2.2.2))).trans (hHeld.2.2.2.2.2)
   refine ⟨_, rfl, ?_⟩
   replace HO_5 := xA (Kd.S_elder' (xS HO_5.out) (Kd.R_base ho0) hb)
   have HO172 := xA (Kd.R_lower (Kd.R_new' ho0 (Kd.R_lt (by (with_reducible repeat (first | apply Kd.R_alloc | apply Kd.R_drewN | apply Kd.R_drew)); exact HL169_0.out))) (below_size (xB1 GE168.out HB.out)))
   replace HL169_0 := xA (Kd.R_elder' (by (with_reducible repeat (first | apply Kd.R_alloc | apply Kd.R_drewN | apply Kd.R_drew)); exact HL169_0.out) (Kd.R_base ho0) hb)
   replace BK168 := xkb BK168 hb
   replace HR169_0 := xA (Kd.C_below (by repeat (first | (with_reducible exact HR169_0.out) | (with_reducible refine Kd.C_alloc ?_ _) | (with_reducible refine Kd.C_drewN ?_ _) | (with_reducible refine Kd.C_drew ?_) | exact HR169_0.out)) hb)
   replace HB := xA (below_step (xB1 GE168.out HB.out) hb)
   (try clear hb); (try clear hb2); (try clear hk); (try clear hi)
   (try clear ho0)
   refine hK.out _ _ ⟨(blk_cell BK168.out 0).trans rfl, (blk_cell BK168.out 1).trans rfl, (blk_cell BK168.out 2).trans rfl, (blk_cell BK168.out 3).trans rfl, (blk_cell BK168.out 4).trans rfl, HS5_⟩ (fun hHeld => ?_)
   clear hK K
   refine xN ?_
   refine xP 8 19 x3a18 ?_
   refine xP 9 28 x3a19 ?_
   refine xP 10 29 x3a20 ?_
   refine xP 11 8 x3a21 ?_
   refine xP 12 9 x3a22 ?_
   refine xDn ?_
   obtain ⟨Ao23, co23, eo23⟩ := Kd.R_slice HO172.out
   subst eo23
   try go_wp2_with (first | ((with_reducible refine gate_builtin (b := .append) (xs := #[.tmp 30, .tmp 32]) rfl ?_); at_builtin; refine Kd.S_append (Kd.slice 3 (Kd.int .i64)) (w0 := w) w.heap.size rfl (.tmp 30) (.tmp 32) 72 24 (.slice none 0 0) 24 rfl Tryd.underlying72 info24 rfl (by decide) (by omega) (.slice (some ad169) x5_1.length co20) x5_1 t170 [.slice Ao23 t170.length co23] (fun _ => True) (fun k_ => some k_ = (.slice Ao23 t170.length co23 : Value).ownBlock) rfl rfl ?aP (fun k_ hk_ => ((Kd.R_mono (ok' := fun k_ => ((fun _ => True)) k_ ∧ some k_ ≠ (.slice (some ad169) x5_1.length co20 : Value).ownBlock) (Kd.R_apart' (HO172.out) (Kd.S_typed HO_5.out) (by decide)) (fun k_ hk => ⟨trivial, hk.2⟩))).1 k_ hk_.symm) ?aF ?aO ?aB ?aS ?aL ?_; (case aP => exact Kd.M_row (Kd.R_mono (Kd.R_tight rfl (Kd.R_mono (ok' := fun k_ => ((fun _ => True)) k_ ∧ some k_ ≠ (.slice (some ad169) x5_1.length co20 : Value).ownBlock) (Kd.R_apart' (HO172.out) (Kd.S_typed HO_5.out) (by decide)) (fun k_ hk => ⟨trivial, hk.2⟩))) (fun _ h_ => h_))); (case aB => exact (xB1 GE168.out HB.out)); (case aF => exact (fun _ _ => trivial)); (case aO => exact (by (with_reducible repeat (first | apply Kd.S_alloc | apply Kd.S_drewN | apply Kd.S_drew)); exact Kd.S_mono HO_5.out (fun k_ hk => ⟨trivial, fun e_ => hk.2 e_⟩))); (case aS => exact (below_size (xB1 GE168.out HB.out))); (case aL => have := LMc15.out; omega); intro v175 w22 ho hb hg hat; rw [← Ny174.out] at ho; replace BK168 := xA (blk_grown (xK BK168.out) hg (Kd.S_ne HO_5.out BK168.out (by decide))); replace HL169_0 := xA (Kd.R_after (ok := (fun k_ => some k_ ≠ (.slice Ao23 t170.length co23 : Value).ownBlock)) (by (with_reducible repeat (first | apply Kd.R_alloc | apply Kd.R_drewN | apply Kd.R_drew)); exact Kd.R_mono HL169_0.out (fun _ hk => ⟨hk.2, hk.1.2⟩)) hg hat); replace HB := xA (hb); have HO176 := xA (ho); clear HO_5 HO172; clear ho hb hg hat))
   go_roundg k1
   case measure => have := HK1.out; omega
   case rel => exact ⟨(y174), (wrap64 (x15_1 + 1)), xs, H', ⟨by have := HK1.out; omega⟩, ⟨xS HO176.out⟩, ⟨xB1 GE168.out HB.out⟩⟩
/-! ### spec_chRun: function 61 -/
def spec_chRun.f (k : Nat) (l0 : List (S79)) (l1 : List Int) : Option (List Int) := (spec_chAll.f k l0 l1).bind fun t177 => (if 0 ≤ (wrap64 ((t177.length : Int) - 1)) then (if (wrap64 ((t177.length : Int) - 1)) < (t177.length : Int) then (some (rd_L6 t177 (wrap64 ((t177.length : Int) - 1)))) else (none)) else (none))
theorem spec_chRun.mono : ∀ a0 a1 k, LeO (spec_chRun.f k a0 a1) (spec_chRun.f (k + 1) a0 a1) := by
 intro a0 a1 k
 have m0 := @spec_chAll.mono
 unfold spec_chRun.f
 exact xM
set_option maxHeartbeats 200000000 in
set_option maxRecDepth 100000 in
theorem spec_chRun.calls (k : Nat) (A0 : Option Addr) (c0 : Nat) (l0 : List (S79)) (A1 : Option Addr) (c1 : Nat) (l1 : List Int) (r : List Int) (w : World) (hr0 : Kd.C k79 w A0 l0.length l0) (hc0 : l0.length ≤ c0) (hr1 : Kd.C (Kd.int .i64) w A1 l1.length l1) (hc1 : l1.length ≤ c1) (h : spec_chRun.f k l0 l1 = some r) :
  Calls Tryd.prog 61 #[.slice A0 l0.length c0, .slice A1 l1.length c1] w fun e w' => ∃ v0_ : Value, e = .returned (v0_) ∧ Kd.R (Kd.int .i64) 3 w' w.heap.size (fun _ => True) v0_ r ∧ Below w.heap.size w w' := by
 have HR0 := xA hr0
 have HC0 := xA hc0
 clear hr0 hc0
 have HR1 := xA hr1
 have HC1 := xA hc1
 clear hr1 hc1
 have HB := xA (Below.refl w.heap.size w)
 have H : ((spec_chAll.f k l0 l1).bind fun t177 => (if 0 ≤ (wrap64 ((t177.length : Int) - 1)) then (if (wrap64 ((t177.length : Int) - 1)) < (t177.length : Int) then (some (rd_L6 t177 (wrap64 ((t177.length : Int) - 1)))) else (none)) else (none))) = some r := h
 clear h
 obtain ⟨t177, A3, H⟩ := xO H
 (try dsimp only at H)
 obtain ⟨ji4, hji4⟩ : ∃ j_ : Int, (wrap64 ((t177.length : Int) - 1)) = j_ := ⟨_, rfl⟩
 (first | rw [hji4] at H | simp only [hji4] at H)
 (try rw [hji4] at A3)
 have hji4w : (IntKind.i64.wrap ((t177.length : Int) - 1)) = ji4 := (i64_w _).trans hji4
 by_cases c5 : 0 ≤ (ji4)
 rotate_left
 ·rw [if_neg c5] at H
  exact absurd H (by simp)

 rw [if_pos c5] at H
 have c5b0 : decide (0 ≤ (ji4)) = true := decide_eq_true c5
 clear c5
 by_cases c6 : (ji4) < (t177.length : Int)
 rotate_left
 ·rw [if_neg c6] at H
  exact absurd H (by simp)
 rw [if_pos c6] at H
 have c6b0 : decide ((ji4) < (t177.length : Int)) = true := decide_eq_true c6
 clear c6
 obtain rfl := Option.some.inj H
 go_enter Tryd.func61, Tryd.ntmps61
 go_wp2_with (first | (refine xG (some 8) Tryd.func81 #[.slice A0 l0.length c0, .slice A1 l1.length c1] ?_; (with_reducible refine (spec_chAll.calls k _ _ l0 _ _ l1 t177 _ ?side1 ?side2 ?side3 ?side4 A3.out).mono ?_); (case side1 => exact xC HR0.out); (case side2 => exact HC0.out); (case side3 => exact xC HR1.out); (case side4 => exact HC1.out); rintro e w7 ⟨v178, rfl, ho0, hb⟩; refine ⟨_, rfl, ?_⟩; have HO179 := xA (Kd.S_lower ho0 (below_size (xB HB.out))); replace HB := xA (below_step (xB HB.out) hb); (try clear hb); (try clear ho0); obtain ⟨Ao8, co8, eo8⟩ := Kd.S_slice HO179.out; subst eo8; have p180 : 0 ≤ ((ji4) : Int) := of_decide_eq_true (by first | (with_reducible assumption) | assumption); have q180 : (ji4) < (t177.length : Int) := of_decide_eq_true (by first | (with_reducible assumption) | assumption); obtain ⟨ad180, A180_0, c180_0, e180, hx180_0, hl180_0, hi180_0⟩ := at_L6 (Kd.S_reads' HO179.out).2.2 (ji4) p180 q180; cases e180; obtain ⟨ce180, hce180, hMe180, hcc180⟩ := Kd.S_get HO179.out [] (ji4) p180 (by first | exact q180 | exact of_decide_eq_true (by first | (with_reducible assumption) | assumption) | (have e_ := (Kd.S_reads' HO179.out).1; omega)); obtain ⟨ve180_0, rfl, ge180_0⟩ := hMe180; have hv180_0 := hcc180 0 _ rfl; rw [Nat.add_zero, show ((Kd.slice 3 (Kd.int .i64))).sz = 1 from rfl, Nat.mul_one] at hv180_0; replace hv180_0 := Option.some.inj (hv180_0.symm.trans hx180_0); rw [hv180_0] at ge180_0; have HL180_0 := xA (show Kd.R (Kd.int .i64) 3 _ _ _ _ (rd_L6 t177 (ji4)) from ge180_0); clear hv180_0 ge180_0; clear hcc180 hce180; have HR180_0 := xA hi180_0; have HC180_0 := xA hl180_0; clear hi180_0 hl180_0; replace p180 := eq_true p180; replace q180 := eq_true q180))
 go_ret
 exact ⟨_, by first | rfl | (simp [errW_none, errW_some] <;> rfl) | (simp only [← hji4]; first | rfl | (simp [errW_none, errW_some] <;> rfl)) | (simp [*, errW_none, errW_some] <;> rfl), by (with_reducible repeat (first | apply Kd.R_alloc | apply Kd.R_drewN | apply Kd.R_drew)); exact Kd.R_mono HL180_0.out (fun _ hk => trivial), xB HB.out⟩
end Go.Proofs.YtjplcongellcmaaDoor.PFnExactCountOutputs
