/- What each Go function that the statement FnFirstRuns reaches answers, proved call by call. No condition beyond those that the theorems print. (Written by wip/tools/xprint.py of this repo, over the kit's print.) -/
import Derived.Test.YtjplcongellcmaaPFnFirstRunsx0
import Derived.Test.YtjplcongellcmaaPFnFirstRunsx1
import Derived.Test.YtjplcongellcmaaPFnFirstRunsx2
import Derived.Test.YtjplcongellcmaaPFnFirstRunsx3
namespace Go.Proofs.Ytjplcongellcmaa.PFnFirstRuns
open Go.RowKit Go.Proofs.YtjplcongellcmaaW.PrintWords Go.Proofs.YtjplcongellcmaaW.PrintLast Go.Proofs.YtjplcongellcmaaW.PrintMore
attribute [local go_sem] max2_int min2_int max_two min_two max_three min_three max_four min_four   -- for this text's walks alone
set_option linter.unusedVariables false
set_option linter.unusedSimpArgs false
def x4a0 : Array Bool := #[Zz,Zz,Zz,Zz,Zz,Zz,Zz,Zz,Zz,Zz,Zz]
def x4a1 : Array Bool := #[Zz,Zz,Yy,Zz,Zz,Zz,Zz,Zz,Zz,Zz,Zz]
def x4a2 : Array Bool := #[Zz,Zz,Yy,Zz,Zz,Yy,Zz,Zz,Zz,Zz,Zz]
def x4a3 : Array Bool := #[Yy,Zz,Yy,Zz,Zz,Yy,Zz,Zz,Zz,Zz,Zz]
def x4a4 : Array Bool := #[Yy,Zz,Yy,Zz,Zz,Yy,Yy,Zz,Zz,Zz,Zz]
def x4a5 : Array Bool := #[Yy,Zz,Yy,Zz,Zz,Yy,Yy,Yy,Zz,Zz,Zz]
def x4a6 : Array Bool := #[Yy,Yy,Yy,Zz,Zz,Yy,Yy,Yy,Zz,Zz,Zz]
def x4a7 : Array Bool := #[Yy,Yy,Yy,Yy,Zz,Yy,Yy,Yy,Zz,Zz,Zz]
def x4a8 : Array Bool := #[Yy,Yy,Yy,Yy,Yy,Yy,Yy,Yy,Zz,Zz,Zz]
def x4a9 : Array Bool := #[Yy,Yy,Yy,Yy,Yy,Yy,Yy,Yy,Yy,Zz,Zz]
def x4a10 : Array Bool := #[Yy,Yy,Yy,Yy,Yy,Yy,Yy,Yy,Yy,Yy,Zz]
def x4a11 : Array Bool := #[Yy,Yy,Yy,Yy,Yy,Yy,Yy,Yy,Yy,Yy,Yy]
def x4a12 : Array Bool := #[Zz,Zz,Zz,Zz,Zz,Zz,Zz,Zz,Zz,Zz]
def x4a13 : Array Bool := #[Zz,Yy,Zz,Zz,Zz,Zz,Zz,Zz,Zz,Zz]
def x4a14 : Array Bool := #[Zz,Yy,Yy,Zz,Zz,Zz,Zz,Zz,Zz,Zz]
def x4a15 : Array Bool := #[Zz,Yy,Yy,Zz,Zz,Yy,Zz,Zz,Zz,Zz]
def x4a16 : Array Bool := #[Yy,Yy,Yy,Zz,Zz,Yy,Zz,Zz,Zz,Zz]
def x4a17 : Array Bool := #[Yy,Yy,Yy,Yy,Zz,Yy,Zz,Zz,Zz,Zz]
def x4a18 : Array Bool := #[Yy,Yy,Yy,Yy,Yy,Yy,Zz,Zz,Zz,Zz]
def x4a19 : Array Bool := #[Yy,Yy,Yy,Yy,Yy,Yy,Yy,Zz,Zz,Zz]
def x4a20 : Array Bool := #[Yy,Yy,Yy,Yy,Yy,Yy,Yy,Yy,Zz,Zz]
def x4a21 : Array Bool := #[Yy,Yy,Yy,Yy,Yy,Yy,Yy,Yy,Yy,Zz]
def x4a22 : Array Bool := #[Yy,Yy,Yy,Yy,Yy,Yy,Yy,Yy,Yy,Yy]

/-! ### spec_l1In: function 230 -/
def spec_l1In.f (a0 : Int) (a1 : Int) (a2 : Int) : Option (Bool) := if a0 ≥ a1 then (some (decide (a0 ≤ a2))) else (some false)
set_option maxHeartbeats 200000000 in
set_option maxRecDepth 100000 in
theorem spec_l1In.calls (a0 : Int) (a1 : Int) (a2 : Int) (r : Bool) (w : World) (h : spec_l1In.f a0 a1 a2 = some r) :
  Calls Try.prog 230 #[.int .i64 a0, .int .i64 a1, .int .i64 a2] w fun e w' => e = .returned (.bool r) ∧ Drawn0 w w' := by
 have H : (if a0 ≥ a1 then (some (decide (a0 ≤ a2))) else (some false)) = some r := h
 clear h
 by_cases c4 : a0 ≥ a1
 ·rw [if_pos c4] at H
  have c4b0 : decide (a1 ≤ a0) = true := decide_eq_true c4
  clear c4
  obtain rfl := Option.some.inj H
  go_enter Try.func230, Try.ntmps230
  go_wp2
  go_ret
  exact ⟨by first | rfl | (simp; done) | (simp [*]; done), by repeat (first | exact Drawn0.refl _ | apply Drawn0.step)⟩
 rw [if_neg c4] at H
 have c4b0 : decide (a1 ≤ a0) = false := decide_eq_false c4
 clear c4
 obtain rfl := Option.some.inj H
 go_enter Try.func230, Try.ntmps230
 go_wp2
 go_ret
 exact ⟨by first | rfl | (simp; done) | (simp [*]; done), by repeat (first | exact Drawn0.refl _ | apply Drawn0.step)⟩

/-! ### spec_wdGood: function 267 -/
def spec_wdGood.f (a0_0 : Int) (a0_1 : Bool) : Option (Bool) := (spec_l1In.f a0_0 2 16).bind fun t229 => (some t229)
set_option maxHeartbeats 200000000 in
set_option maxRecDepth 100000 in
theorem spec_wdGood.calls (a0_0 : Int) (a0_1 : Bool) (r : Bool) (w : World) (h : spec_wdGood.f a0_0 a0_1 = some r) :
  Calls Try.prog 267 #[.agg #[.int .i64 a0_0, .bool a0_1]] w fun e w' => e = .returned (.bool r) ∧ Below w.heap.size w w' := by
 have hu46 := Try.underlying46
 have HB := xA (Below.refl w.heap.size w)
 have H : ((spec_l1In.f a0_0 2 16).bind fun t229 => (some t229)) = some r := h
 clear h
 obtain ⟨t229, A2, H⟩ := xO H
 (try dsimp only at H)
 obtain rfl := Option.some.inj H
 go_enter Try.func267, Try.ntmps267
 go_wp2_with (first | (refine xg 1 rfl ?_; refine xV 1 #[.int .i64 a0_0, .bool a0_1] 46 ?_; intro gb228 hg w3 hbox hb; have BK228 := xA (hbox); have GW228 := xgw hg (below_size (xB HB.out)); have GE228 := GW228; replace HB := xA (below_step (xB HB.out) hb); clear hb hbox hg; replace hz228 := blk_cell BK228.out; replace hy228 := blk_frozen BK228.out) | (refine xG (some 5) Try.func230 #[.int .i64 a0_0, .int .i64 2, .int .i64 16] ?_; (with_reducible refine (spec_l1In.calls a0_0 2 16 t229 _ A2.out).mono ?_); rintro e w' ⟨rfl, ⟨nd, rfl⟩⟩; refine ⟨_, rfl, ?_⟩))
 go_ret
 exact ⟨xr, xB1 GE228.out HB.out⟩

/-! ### spec_wdLow: function 268 -/
def spec_wdLow.f (a0_0 : Int) (a0_1 : Bool) : Option (Int) := if 0 ≤ (wrap64 (a0_0 - 1)) then (some (wrap64 (-(shl .i64 1 (wrap64 (a0_0 - 1)))))) else (none)
set_option maxHeartbeats 200000000 in
set_option maxRecDepth 100000 in
theorem spec_wdLow.calls (a0_0 : Int) (a0_1 : Bool) (r : Int) (w : World) (h : spec_wdLow.f a0_0 a0_1 = some r) :
  Calls Try.prog 268 #[.agg #[.int .i64 a0_0, .bool a0_1]] w fun e w' => e = .returned (.int .i64 r) ∧ Below w.heap.size w w' := by
 have hu46 := Try.underlying46
 have HB := xA (Below.refl w.heap.size w)
 have H : (if 0 ≤ (wrap64 (a0_0 - 1)) then (some (wrap64 (-(shl .i64 1 (wrap64 (a0_0 - 1)))))) else (none)) = some r := h
 clear h
 obtain ⟨ji2, hji2⟩ : ∃ j_ : Int, (wrap64 (a0_0 - 1)) = j_ := ⟨_, rfl⟩
 (first | rw [hji2] at H | simp only [hji2] at H)
 have hji2w : (IntKind.i64.wrap (a0_0 - 1)) = ji2 := (i64_w _).trans hji2
 by_cases c3 : 0 ≤ (ji2)
 rotate_left
 ·rw [if_neg c3] at H
  exact absurd H (by simp)

 rw [if_pos c3] at H
 have c3b0 := eq_true c3
 have c3b1 : decide (0 ≤ (ji2)) = true := decide_eq_true c3
 clear c3
 obtain ⟨ji4, hji4⟩ : ∃ j_ : Int, (shl .i64 1 (ji2)) = j_ := ⟨_, rfl⟩
 (first | rw [hji4] at H | simp only [hji4] at H)
 have hji4_ : (IntKind.i64.wrap (1 * 2 ^ min (ji2).toNat 64)) = ji4 := hji4
 have hji4z : (ji2) ≤ 64 → (IntKind.i64.wrap (1 * 2 ^ (ji2).toNat)) = ji4 := shl_small hji4
 have hji4u : (IntKind.i64.wrap (2 ^ min (ji2).toNat 64)) = ji4 := by have h_ := hji4_; rw [Int.one_mul] at h_; exact h_
 have hji4v : (ji2) ≤ 64 → (IntKind.i64.wrap (2 ^ (ji2).toNat)) = ji4 := fun hle_ => by have h_ := hji4z hle_; rw [Int.one_mul] at h_; exact h_
 have hji4y : (wrap64 (1 * 2 ^ min (ji2).toNat 64)) = ji4 := (i64_w _).symm.trans hji4_
 have hji4x : (ji2) ≤ 64 → (wrap64 (1 * 2 ^ (ji2).toNat)) = ji4 := fun h_ => (i64_w _).symm.trans (hji4z h_)
 obtain rfl := Option.some.inj H
 go_enter Try.func268, Try.ntmps268
 go_wp2_with (first | (refine xg 1 rfl ?_; refine xV 1 #[.int .i64 a0_0, .bool a0_1] 46 ?_; intro gb230 hg w5 hbox hb; have BK230 := xA (hbox); have GW230 := xgw hg (below_size (xB HB.out)); have GE230 := GW230; replace HB := xA (below_step (xB HB.out) hb); clear hb hbox hg; obtain ⟨hcz6_0, hcz6_1, hfz6_0, hfz6_1⟩ := xZ2 BK230.out))
 go_ret
 exact ⟨by first | rfl | (simp [errW_none, errW_some] <;> rfl) | (simp only [← hji2, ← hji4]; first | rfl | (simp [errW_none, errW_some] <;> rfl)) | (simp [*, errW_none, errW_some] <;> rfl), xB1 GE230.out HB.out⟩
/-! ### spec_wdHigh: function 269 -/
def spec_wdHigh.f (a0_0 : Int) (a0_1 : Bool) : Option (Int) := if 0 ≤ (wrap64 (a0_0 - 1)) then (some (wrap64 ((shl .i64 1 (wrap64 (a0_0 - 1))) - 1))) else (none)
set_option maxHeartbeats 200000000 in
set_option maxRecDepth 100000 in
theorem spec_wdHigh.calls (a0_0 : Int) (a0_1 : Bool) (r : Int) (w : World) (h : spec_wdHigh.f a0_0 a0_1 = some r) :
  Calls Try.prog 269 #[.agg #[.int .i64 a0_0, .bool a0_1]] w fun e w' => e = .returned (.int .i64 r) ∧ Below w.heap.size w w' := by
 have hu46 := Try.underlying46
 have HB := xA (Below.refl w.heap.size w)
 have H : (if 0 ≤ (wrap64 (a0_0 - 1)) then (some (wrap64 ((shl .i64 1 (wrap64 (a0_0 - 1))) - 1))) else (none)) = some r := h
 clear h
 obtain ⟨ji2, hji2⟩ : ∃ j_ : Int, (wrap64 (a0_0 - 1)) = j_ := ⟨_, rfl⟩
 (first | rw [hji2] at H | simp only [hji2] at H)
 have hji2w : (IntKind.i64.wrap (a0_0 - 1)) = ji2 := (i64_w _).trans hji2
 by_cases c3 : 0 ≤ (ji2)
 rotate_left
 ·rw [if_neg c3] at H
  exact absurd H (by simp)

 rw [if_pos c3] at H
 have c3b0 := eq_true c3
 have c3b1 : decide (0 ≤ (ji2)) = true := decide_eq_true c3
 clear c3
 obtain ⟨ji4, hji4⟩ : ∃ j_ : Int, (shl .i64 1 (ji2)) = j_ := ⟨_, rfl⟩
 (first | rw [hji4] at H | simp only [hji4] at H)
 have hji4_ : (IntKind.i64.wrap (1 * 2 ^ min (ji2).toNat 64)) = ji4 := hji4
 have hji4z : (ji2) ≤ 64 → (IntKind.i64.wrap (1 * 2 ^ (ji2).toNat)) = ji4 := shl_small hji4
 have hji4u : (IntKind.i64.wrap (2 ^ min (ji2).toNat 64)) = ji4 := by have h_ := hji4_; rw [Int.one_mul] at h_; exact h_
 have hji4v : (ji2) ≤ 64 → (IntKind.i64.wrap (2 ^ (ji2).toNat)) = ji4 := fun hle_ => by have h_ := hji4z hle_; rw [Int.one_mul] at h_; exact h_
 have hji4y : (wrap64 (1 * 2 ^ min (ji2).toNat 64)) = ji4 := (i64_w _).symm.trans hji4_
 have hji4x : (ji2) ≤ 64 → (wrap64 (1 * 2 ^ (ji2).toNat)) = ji4 := fun h_ => (i64_w _).symm.trans (hji4z h_)
 obtain rfl := Option.some.inj H
 go_enter Try.func269, Try.ntmps269
 go_wp2_with (first | (refine xg 1 rfl ?_; refine xV 1 #[.int .i64 a0_0, .bool a0_1] 46 ?_; intro gb231 hg w5 hbox hb; have BK231 := xA (hbox); have GW231 := xgw hg (below_size (xB HB.out)); have GE231 := GW231; replace HB := xA (below_step (xB HB.out) hb); clear hb hbox hg; obtain ⟨hcz6_0, hcz6_1, hfz6_0, hfz6_1⟩ := xZ2 BK231.out))
 go_ret
 exact ⟨by first | rfl | (simp [errW_none, errW_some] <;> rfl) | (simp only [← hji2, ← hji4]; first | rfl | (simp [errW_none, errW_some] <;> rfl)) | (simp [*, errW_none, errW_some] <;> rfl), xB1 GE231.out HB.out⟩
/-! ### spec_l1Cur_number: function 382 -/
def spec_l1Cur_number.f (s0_0 : List Int) (s0_1 : Int) (s0_2 : Int) : Option (Int × Int × Int) := (spec_l1Cur_pick.f s0_0 s0_1 s0_2 14).bind fun bt232 => (if bt232.1 = 0 then ((spec_l1Cur_among.f s0_0 bt232.2.1 bt232.2.2 (([1000000000000, (-1000000000000), 1000000000001, (-4611686018427387904), 549755813888] : List Int))).bind fun bt238 => (some (bt238.1, bt238.2.1, bt238.2.2))) else (if bt232.1 = 1 then ((spec_l1Cur_pick.f s0_0 bt232.2.1 bt232.2.2 256).bind fun bt241 => ((spec_l1Cur_pick.f s0_0 bt241.2.1 bt241.2.2 256).bind fun bt244 => (some (wrap64 ((wrap64 ((wrap64 ((wrap64 (bt241.1 * 256)) + bt244.1)) * 256)) - 5000000), bt244.2.1, bt244.2.2)))) else ((spec_l1Cur_pick.f s0_0 bt232.2.1 bt232.2.2 200).bind fun bt247 => (some (wrap64 (bt247.1 - 100), bt247.2.1, bt247.2.2)))))
set_option maxHeartbeats 200000000 in
set_option maxRecDepth 100000 in
theorem spec_l1Cur_number.calls (g : Nat) (s0_0 : List Int) (s0_1 : Int) (s0_2 : Int) (r1 : Int) (r2 : Int) (r3 : Int) (w0 w : World) (hI : IsS129 w0 w g s0_0 s0_1 s0_2) (hB : Below w0.heap.size w0 w) (h : spec_l1Cur_number.f s0_0 s0_1 s0_2 = some (r1, r2, r3)) :
  Calls Try.prog 382 #[.pointer (some ⟨g, 0, none⟩)] w fun e w' => e = .returned (.int .i64 r1) ∧ IsS129 w0 w' g s0_0 r2 r3 ∧ Below w0.heap.size w0 w' ∧ KeepBut w w' g none := by
 have HI0 := xA hI
 have HK := xA (KeepBut.refl w g none)
 have HL := xA hB.size
 clear hI
 have HW0 := xA hB.size
 have HB := xA hB
 clear hB
 have H : ((spec_l1Cur_pick.f s0_0 s0_1 s0_2 14).bind fun bt232 => (if bt232.1 = 0 then ((spec_l1Cur_among.f s0_0 bt232.2.1 bt232.2.2 (([1000000000000, (-1000000000000), 1000000000001, (-4611686018427387904), 549755813888] : List Int))).bind fun bt238 => (some (bt238.1, bt238.2.1, bt238.2.2))) else (if bt232.1 = 1 then ((spec_l1Cur_pick.f s0_0 bt232.2.1 bt232.2.2 256).bind fun bt241 => ((spec_l1Cur_pick.f s0_0 bt241.2.1 bt241.2.2 256).bind fun bt244 => (some (wrap64 ((wrap64 ((wrap64 ((wrap64 (bt241.1 * 256)) + bt244.1)) * 256)) - 5000000), bt244.2.1, bt244.2.2)))) else ((spec_l1Cur_pick.f s0_0 bt232.2.1 bt232.2.2 200).bind fun bt247 => (some (wrap64 (bt247.1 - 100), bt247.2.1, bt247.2.2)))))) = some (r1, r2, r3) := h
 clear h
 replace H := Option.bind_eq_some_iff.mp H
 obtain ⟨⟨t232, t233, t234⟩, A20, H⟩ := H
 (try dsimp only at H)
 have A2 := xA A20
 clear A20
 by_cases c3 : t232 = 0
 ·rw [if_pos c3] at H
  have c3b0 : (t232 == 0) = true := beq_iff_eq.mpr c3
  have c3b1 : (t232 != 0) = false := bne_eq_false_iff_eq.mpr c3
  clear c3
  obtain ⟨y235, hy235⟩ : ∃ y_ : List Int, y_ = (([1000000000000, (-1000000000000), 1000000000001, (-4611686018427387904), 549755813888] : List Int)) := ⟨_, rfl⟩
  replace H : ((spec_l1Cur_among.f s0_0 t233 t234 y235).bind fun bt238 => (some (bt238.1, bt238.2.1, bt238.2.2))) = some (r1, r2, r3) := by first | (rw [hy235]; with_reducible exact H) | (have H2_ := (Option.bind_some _ _).symm.trans H; rw [hy235]; with_reducible exact H2_) | (have H2_ := (Option.bind_some _ _).symm.trans H; with_reducible exact H2_) | with_reducible exact H | (rw [hy235]; exact H) | exact H
  have Ny235 := xA hy235
  clear hy235
  replace H := Option.bind_eq_some_iff.mp H
  obtain ⟨⟨t238, t239, t240⟩, A40, H⟩ := H
  (try dsimp only at H)
  have A4 := xA A40
  clear A40
  simp only [Option.some.injEq, Prod.mk.injEq] at H
  obtain ⟨rfl, rfl, rfl⟩ := H
  go_enter Try.func382, Try.ntmps382
  go_wp2_with (first | (refine xq rfl ?_; first | (refine xG (some 4) Try.func229 #[.pointer (some ⟨g, 0, none⟩), .int .i64 14] ?_; (with_reducible refine (spec_l1Cur_pick.calls g s0_0 s0_1 s0_2 14 t232 t233 t234 w0 _ ?side1 ?side2 A2.out).mono ?_); (case side1 => exact xJ129_12_0 HI0.out); (case side2 => exact xB1 (IsS129.ge HI0.out) HB.out); rintro e w5 ⟨rfl, hi, hb, hk⟩; refine ⟨_, rfl, ?_⟩; replace HK := xA (KeepBut.trans (xH0 HK.out) hk (.inl rfl)); replace HB := xA (hb); replace HI0 := xA (hi); (try clear hb hk hi)) | (refine xG (some 9) Try.func228 #[.pointer (some ⟨g, 0, none⟩), .slice Ao8 y235.length co8] ?_; (with_reducible refine (spec_l1Cur_among.calls g s0_0 t233 t234 _ _ y235 t238 t239 t240 w0 _ ?side1 ?side2 ?side3 ?side4 ?side5 A4.out).mono ?_); (case side1 => exact xJ129_12_0 HI0.out); (case side2 => exact xB1 (IsS129.ge HI0.out) HB.out); (case side3 => exact xC ((Kd.R_reads' HO237.out).2.2)); (case side4 => exact (Kd.R_reads' HO237.out).2.1); (case side5 => exact far_slice (IsS129.own_ne HI0.out HO237.out (by decide))); rintro e w9 ⟨rfl, hi, hb, hk⟩; refine ⟨_, rfl, ?_⟩; replace HO237 := xA (Kd.R_mono (Kd.R_keep (IsS129.apart (show IsS129 w0 _ g s0_0 t233 t234 from xJ129_12_0 HI0.out) (xR HO237.out) (by decide)) hk (fun _ h => h.2)) (fun _ h => h.1)); replace HK := xA (KeepBut.trans (xH0 HK.out) hk (.inl rfl)); replace HB := xA (hb); replace HI0 := xA (hi); (try clear hb hk hi))) | ((with_reducible refine gate_dst (N := 8) rfl ?_); refine Kd.R_lit (Kd.int .i64) _ 3 ?hg (N := 8) ?hd (xs := ([1000000000000, (-1000000000000), 1000000000001, (-4611686018427387904), 549755813888] : List Int)) (inner := [.int .i64 1000000000000, .int .i64 (-1000000000000), .int .i64 1000000000001, .int .i64 (-4611686018427387904), .int .i64 549755813888]) (ok := fun _ => True) (okp := fun _ => True) ?hr ?hp (fun _ hk => hk) trivial (Below.refl _ _) (Nat.le_refl _) (by simp) ?_; (case hd => rfl); (case hg => rfl); (case hr => first | (go_simp; done) | (go_simp; rfl)); (case hp => exact (Reps.one (show Kd.M (Kd.int .i64) _ _ _ 1000000000000 [.int .i64 1000000000000] from rfl) (Reps.one (show Kd.M (Kd.int .i64) _ _ _ (-1000000000000) [.int .i64 (-1000000000000)] from rfl) (Reps.one (show Kd.M (Kd.int .i64) _ _ _ 1000000000001 [.int .i64 1000000000001] from rfl) (Reps.one (show Kd.M (Kd.int .i64) _ _ _ (-4611686018427387904) [.int .i64 (-4611686018427387904)] from rfl) (Reps.one (show Kd.M (Kd.int .i64) _ _ _ 549755813888 [.int .i64 549755813888] from rfl) (Reps.none _ _))))))); intro v236 w6 ho7 hb hg_ hnew_; clear hg_ hnew_; (first | rw [← Ny235.out] at ho7 | (simp only [Int.reduceToNat] at ho7; rw [← Ny235.out] at ho7)); have HO237 := xA (Kd.R_lower ho7 (keep_size (w := w) (g := g) (row := none) (xH0 HK.out))); replace HK := xA (KeepBut.trans (xH0 HK.out) (KeepBut.of_below hb g none) (.inl rfl)); replace HB := xA (below_step (xB1 (IsS129.ge HI0.out) HB.out) hb); replace HI0 := xA (IsS129.below (xJ129_12_0 HI0.out) hb); clear hb ho7; obtain ⟨Ao8, co8, eo8⟩ := Kd.R_slice HO237.out; subst eo8))
  go_ret
  exact ⟨xr, xJ129_12_0 HI0.out, xB1 (IsS129.ge HI0.out) HB.out, xH0 HK.out⟩
 rw [if_neg c3] at H
 have c3b0 : (t232 == 0) = false := beq_eq_false_iff_ne.mpr c3
 have c3b1 : (t232 != 0) = true := bne_iff_ne.mpr c3
 by_cases c10 : t232 = 1
 rotate_left
 ·rw [if_neg c10] at H
  have c10b0 : (t232 == 1) = false := beq_eq_false_iff_ne.mpr c10
  have c10b1 : (t232 != 1) = true := bne_iff_ne.mpr c10
  replace H := Option.bind_eq_some_iff.mp H
  obtain ⟨⟨t247, t248, t249⟩, A160, H⟩ := H
  (try dsimp only at H)
  have A16 := xA A160
  clear A160
  simp only [Option.some.injEq, Prod.mk.injEq] at H
  obtain ⟨rfl, rfl, rfl⟩ := H
  go_enter Try.func382, Try.ntmps382
  go_wp2_with (first | (refine xq rfl ?_; first | (refine xG (some 4) Try.func229 #[.pointer (some ⟨g, 0, none⟩), .int .i64 14] ?_; (with_reducible refine (spec_l1Cur_pick.calls g s0_0 s0_1 s0_2 14 t232 t233 t234 w0 _ ?side1 ?side2 A2.out).mono ?_); (case side1 => exact xJ129_12_0 HI0.out); (case side2 => exact xB1 (IsS129.ge HI0.out) HB.out); rintro e w17 ⟨rfl, hi, hb, hk⟩; refine ⟨_, rfl, ?_⟩; replace HK := xA (KeepBut.trans (xH0 HK.out) hk (.inl rfl)); replace HB := xA (hb); replace HI0 := xA (hi); (try clear hb hk hi)) | (refine xG (some 21) Try.func229 #[.pointer (some ⟨g, 0, none⟩), .int .i64 200] ?_; (with_reducible refine (spec_l1Cur_pick.calls g s0_0 t233 t234 200 t247 t248 t249 w0 _ ?side1 ?side2 A16.out).mono ?_); (case side1 => exact xJ129_12_0 HI0.out); (case side2 => exact xB1 (IsS129.ge HI0.out) HB.out); rintro e w18 ⟨rfl, hi, hb, hk⟩; refine ⟨_, rfl, ?_⟩; replace HK := xA (KeepBut.trans (xH0 HK.out) hk (.inl rfl)); replace HB := xA (hb); replace HI0 := xA (hi); (try clear hb hk hi))))
  go_ret
  exact ⟨xr, xJ129_12_0 HI0.out, xB1 (IsS129.ge HI0.out) HB.out, xH0 HK.out⟩

 rw [if_pos c10] at H
 have c10b0 : (t232 == 1) = true := beq_iff_eq.mpr c10
 have c10b1 : (t232 != 1) = false := bne_eq_false_iff_eq.mpr c10
 clear c10
 replace H := Option.bind_eq_some_iff.mp H
 obtain ⟨⟨t241, t242, t243⟩, A110, H⟩ := H
 (try dsimp only at H)
 have A11 := xA A110
 clear A110
 replace H := Option.bind_eq_some_iff.mp H
 obtain ⟨⟨t244, t245, t246⟩, A120, H⟩ := H
 (try dsimp only at H)
 have A12 := xA A120
 clear A120
 simp only [Option.some.injEq, Prod.mk.injEq] at H
 obtain ⟨rfl, rfl, rfl⟩ := H
 go_enter Try.func382, Try.ntmps382
 go_wp2_with (first | (refine xq rfl ?_; first | (refine xG (some 4) Try.func229 #[.pointer (some ⟨g, 0, none⟩), .int .i64 14] ?_; (with_reducible refine (spec_l1Cur_pick.calls g s0_0 s0_1 s0_2 14 t232 t233 t234 w0 _ ?side1 ?side2 A2.out).mono ?_); (case side1 => exact xJ129_12_0 HI0.out); (case side2 => exact xB1 (IsS129.ge HI0.out) HB.out); rintro e w13 ⟨rfl, hi, hb, hk⟩; refine ⟨_, rfl, ?_⟩; replace HK := xA (KeepBut.trans (xH0 HK.out) hk (.inl rfl)); replace HB := xA (hb); replace HI0 := xA (hi); (try clear hb hk hi)) | (refine xG (some 13) Try.func229 #[.pointer (some ⟨g, 0, none⟩), .int .i64 256] ?_; (with_reducible refine (spec_l1Cur_pick.calls g s0_0 t233 t234 256 t241 t242 t243 w0 _ ?side1 ?side2 A11.out).mono ?_); (case side1 => exact xJ129_12_0 HI0.out); (case side2 => exact xB1 (IsS129.ge HI0.out) HB.out); rintro e w14 ⟨rfl, hi, hb, hk⟩; refine ⟨_, rfl, ?_⟩; replace HK := xA (KeepBut.trans (xH0 HK.out) hk (.inl rfl)); replace HB := xA (hb); replace HI0 := xA (hi); (try clear hb hk hi)) | (refine xG (some 16) Try.func229 #[.pointer (some ⟨g, 0, none⟩), .int .i64 256] ?_; (with_reducible refine (spec_l1Cur_pick.calls g s0_0 t242 t243 256 t244 t245 t246 w0 _ ?side1 ?side2 A12.out).mono ?_); (case side1 => exact xJ129_12_0 HI0.out); (case side2 => exact xB1 (IsS129.ge HI0.out) HB.out); rintro e w15 ⟨rfl, hi, hb, hk⟩; refine ⟨_, rfl, ?_⟩; replace HK := xA (KeepBut.trans (xH0 HK.out) hk (.inl rfl)); replace HB := xA (hb); replace HI0 := xA (hi); (try clear hb hk hi))))
 go_ret
 exact ⟨xr, xJ129_12_0 HI0.out, xB1 (IsS129.ge HI0.out) HB.out, xH0 HK.out⟩
/-! ### spec_l1Cur_inWord: function 282 -/
def spec_l1Cur_inWord.j0 : Nat → Bool → List Int → Int → Int → Int → Bool → Option (Int × Int × Int)
 | 0, _, _, _, _, _, _ => none
 | k + 1, x11, x1000, x1001, x1002, x251000, x251001 => if x11 = true then ((spec_l1Cur_number.f x1000 x1001 x1002).bind fun bt255 => (some (bt255.1, bt255.2.1, bt255.2.2))) else ((spec_l1Cur_pick.f x1000 x1001 x1002 5).bind fun bt258 => (if bt258.1 = 0 then ((spec_wdLow.f x251000 x251001).bind fun t261 => (some (t261, bt258.2.1, bt258.2.2))) else (if bt258.1 = 1 then ((spec_wdHigh.f x251000 x251001).bind fun t262 => (some (t262, bt258.2.1, bt258.2.2))) else ((spec_wdLow.f x251000 x251001).bind fun t263 => ((spec_l1Cur_pick.f x1000 bt258.2.1 bt258.2.2 256).bind fun bt264 => (if 0 ≤ x251000 then (if (shl .i64 1 x251000) = 0 then (none) else (some (wrap64 (t263 + (Int.tmod (wrap64 (bt264.1 * 257)) (shl .i64 1 x251000))), bt264.2.1, bt264.2.2))) else (none)))))))
def spec_l1Cur_inWord.f (k : Nat) (s0_0 : List Int) (s0_1 : Int) (s0_2 : Int) (a1_0 : Int) (a1_1 : Bool) : Option (Int × Int × Int) := (spec_wdGood.f a1_0 a1_1).bind fun t251 => (if t251 = true then ((spec_l1Cur_one.f s0_0 s0_1 s0_2 12).bind fun bt252 => (spec_l1Cur_inWord.j0 k bt252.1 s0_0 bt252.2.1 bt252.2.2 a1_0 a1_1)) else (spec_l1Cur_inWord.j0 k true s0_0 s0_1 s0_2 a1_0 a1_1))
theorem spec_l1Cur_inWord.mono_l : ∀ k, (∀ y0 y1 y2 y3 y4 y5, LeO (spec_l1Cur_inWord.j0 k y0 y1 y2 y3 y4 y5) (spec_l1Cur_inWord.j0 (k + 1) y0 y1 y2 y3 y4 y5))
 | 0 => fun _ _ _ _ _ _ r h => by simp [spec_l1Cur_inWord.j0] at h
 | k + 1 => by
  have ih0 := spec_l1Cur_inWord.mono_l k
  intros
  unfold spec_l1Cur_inWord.j0
  exact xM
theorem spec_l1Cur_inWord.mono : ∀ a0 a1 a2 a3 a4 k, LeO (spec_l1Cur_inWord.f k a0 a1 a2 a3 a4) (spec_l1Cur_inWord.f (k + 1) a0 a1 a2 a3 a4) := by
 intro a0 a1 a2 a3 a4 k
 have ih0 := spec_l1Cur_inWord.mono_l k
 unfold spec_l1Cur_inWord.f
 exact xM
def spec_l1Cur_inWord.T8 : Bool × List (List Nat × List Nat) := (true, [([], []), ([0], [0]), ([], []), ([2, 1], [2]), ([3], [3]), ([], []), ([5], [5]), ([6], [6]), ([4, 7], [4, 7]), ([1, 8], [1, 8]), ([9, 3, 0, 1, 2, 3, 4, 5, 6, 7, 8, 9], [9])])
def spec_l1Cur_inWord.B8 : List Nat := [0, 1, 0, 7, 15, 0, 32, 96, 255, 511, 1023]
theorem spec_l1Cur_inWord.tab8 : rtab .any (opsOf Try.f282 8) = spec_l1Cur_inWord.T8 := by kernel_rfl
theorem spec_l1Cur_inWord.bits8 : waitsOk spec_l1Cur_inWord.T8.2 spec_l1Cur_inWord.B8 = true := by kernel_rfl
set_option maxHeartbeats 200000000 in
set_option maxRecDepth 100000 in
theorem spec_l1Cur_inWord.calls (k : Nat) (g : Nat) (s0_0 : List Int) (s0_1 : Int) (s0_2 : Int) (a1_0 : Int) (a1_1 : Bool) (r1 : Int) (r2 : Int) (r3 : Int) (w0 w : World) (hI : IsS129 w0 w g s0_0 s0_1 s0_2) (hB : Below w0.heap.size w0 w) (h : spec_l1Cur_inWord.f k s0_0 s0_1 s0_2 a1_0 a1_1 = some (r1, r2, r3)) :
  Calls Try.prog 282 #[.pointer (some ⟨g, 0, none⟩), .agg #[.int .i64 a1_0, .bool a1_1]] w fun e w' => e = .returned (.int .i64 r1) ∧ IsS129 w0 w' g s0_0 r2 r3 ∧ Below w0.heap.size w0 w' ∧ KeepBut w w' g none := by
 have hu46 := Try.underlying46
 have HI0 := xA hI
 have HK := xA (KeepBut.refl w g none)
 have HL := xA hB.size
 clear hI
 have HW0 := xA hB.size
 have HB := xA hB
 clear hB
 have H : ((spec_wdGood.f a1_0 a1_1).bind fun t251 => (if t251 = true then ((spec_l1Cur_one.f s0_0 s0_1 s0_2 12).bind fun bt252 => (spec_l1Cur_inWord.j0 k bt252.1 s0_0 bt252.2.1 bt252.2.2 a1_0 a1_1)) else (spec_l1Cur_inWord.j0 k true s0_0 s0_1 s0_2 a1_0 a1_1))) = some (r1, r2, r3) := h
 clear h
 have HC3 := xA H
 clear H
 go_enter Try.func282, Try.ntmps282
 go_upto_region 1 with (first | (refine xg 3 rfl ?_; refine xV 3 #[.int .i64 a1_0, .bool a1_1] 46 ?_; intro gb250 hg w4 hbox hb; replace HB := xA (below_step (xB1 (IsS129.ge HI0.out) HB.out) hb); have BK250 := xA (hbox); have GW250 := xA ((by rw [hg]; exact (keep_size (w := w) (g := g) (row := none) (xH0 HK.out)) : w.heap.size ≤ gb250)); have GE250 := xA ((Nat.le_trans HW0.out (by rw [hg]; exact (keep_size (w := w) (g := g) (row := none) (xH0 HK.out)) : w.heap.size ≤ gb250) : w0.heap.size ≤ gb250)); replace HK := xA (KeepBut.trans (xH0 HK.out) (KeepBut.of_below hb g none) (.inl rfl)); have NB0_250 := xA ((by rw [hg]; exact Nat.ne_of_lt (IsS129.lt (show IsS129 w0 _ g s0_0 s0_1 s0_2 from xJ129_12_0 HI0.out)) : g ≠ gb250)); have NB250_0 := xA ((by rw [hg]; exact Nat.ne_of_gt (IsS129.lt (show IsS129 w0 _ g s0_0 s0_1 s0_2 from xJ129_12_0 HI0.out)) : gb250 ≠ g)); replace HI0 := xA (IsS129.below (xJ129_12_0 HI0.out) hb); clear hb hbox hg))
 (try simp only [Act.put, List.setIfInBounds_toArray, List.set_cons_zero, List.set_cons_succ])
 go_cut [11] from 5 to 5 (fun v11 wc => ∃ (kq : Nat) (x11_2 : Bool) (x1001_2 : Int) (x1002_2 : Int), v11 = .bool x11_2 ∧ Aside0 (spec_l1Cur_inWord.j0 kq x11_2 s0_0 x1001_2 x1002_2 a1_0 a1_1 = some (r1, r2, r3)) ∧ Aside0 (kq ≤ k) ∧ Aside0 (wc.heap[gb250]? = some (.cells #[.int .i64 a1_0, .bool a1_1] 46 (0, 0))) ∧ Aside0 (IsS129 w0 wc g s0_0 x1001_2 x1002_2) ∧ Aside0 (KeepBut w wc g none) ∧ Aside0 (Below w0.heap.size w0 wc))
 case first => as_aux_lemma =>
  have H := HC3.out
  clear HC3
  obtain ⟨t251, A5, H⟩ := xO H
  (try dsimp only at H)
  by_cases c6 : t251 = true
  rotate_left
  ·replace c6 := Bool.eq_false_iff.mpr c6
   subst c6
   rw [if_neg (show ¬ (false = true) by decide)] at H
   have H' := xA H
   clear H
   have hnb12 := NB250_0.out
   have hnc12 := NB0_250.out
   replace hz250 := blk_cell BK250.out; replace hy250 := blk_frozen BK250.out
   go_wp2_with (first | (refine xG (some 6) Try.func267 #[.agg #[.int .i64 a1_0, .bool a1_1]] ?_; (with_reducible refine (spec_wdGood.calls a1_0 a1_1 false _ A5.out).mono ?_); rintro e w14 ⟨rfl, hb⟩; refine ⟨_, rfl, ?_⟩; replace BK250 := xkb BK250 hb; replace HK := xA (KeepBut.trans (xH1 GW250.out HK.out) (KeepBut.of_below hb g none) (.inl rfl)); replace HB := xA (below_step (xB2 (IsS129.ge HI0.out) GE250.out HB.out) hb); replace HI0 := xA (IsS129.below (xJ129_12_1 NB0_250.out HI0.out) hb); (try clear hb)))
   go_meet
   case rel => exact ⟨_, (true), (s0_1), (s0_2), xs, H', ⟨by first | omega | exact Nat.le_refl _⟩, ⟨xK BK250.out⟩, ⟨xJ129_12_1 NB0_250.out HI0.out⟩, ⟨xH1 GW250.out HK.out⟩, ⟨xB2 (IsS129.ge HI0.out) GE250.out HB.out⟩⟩
  subst c6
  rw [if_pos rfl] at H
  replace H := Option.bind_eq_some_iff.mp H
  obtain ⟨⟨t252, t253, t254⟩, A70, H⟩ := H
  (try dsimp only at H)
  have A7 := xA A70
  clear A70
  have H' := xA H
  clear H
  have hnb8 := NB250_0.out
  have hnc8 := NB0_250.out
  replace hz250 := blk_cell BK250.out; replace hy250 := blk_frozen BK250.out
  go_wp2_with (first | (refine xG (some 6) Try.func267 #[.agg #[.int .i64 a1_0, .bool a1_1]] ?_; (with_reducible refine (spec_wdGood.calls a1_0 a1_1 true _ A5.out).mono ?_); rintro e w10 ⟨rfl, hb⟩; refine ⟨_, rfl, ?_⟩; replace BK250 := xkb BK250 hb; replace HK := xA (KeepBut.trans (xH1 GW250.out HK.out) (KeepBut.of_below hb g none) (.inl rfl)); replace HB := xA (below_step (xB2 (IsS129.ge HI0.out) GE250.out HB.out) hb); replace HI0 := xA (IsS129.below (xJ129_12_1 NB0_250.out HI0.out) hb); (try clear hb)) | (go_at_call 227; (with_reducible refine (spec_l1Cur_one.calls g s0_0 s0_1 s0_2 12 t252 t253 t254 w0 _ ?side1 ?side2 A7.out).mono ?_); (case side1 => exact xJ129_12_1 NB0_250.out HI0.out); (case side2 => exact xB2 (IsS129.ge HI0.out) GE250.out HB.out); rintro e w11 ⟨rfl, hi, hb, hk⟩; replace BK250 := xkk hk BK250 NB250_0; replace HK := xA (KeepBut.trans (xH1 GW250.out HK.out) hk (.inl rfl)); replace HB := xA (hb); replace HI0 := xA (hi); (try clear hb hk hi)))
  go_meet
  case rel => exact ⟨_, (t252), (t253), (t254), xs, H', ⟨by first | omega | exact Nat.le_refl _⟩, ⟨xK BK250.out⟩, ⟨xJ129_12_1 NB0_250.out HI0.out⟩, ⟨xH1 GW250.out HK.out⟩, ⟨xB2 (IsS129.ge HI0.out) GE250.out HB.out⟩⟩
 case rest => as_aux_lemma =>
  clear HC3
  obtain ⟨kq, x11_2, x1001_2, x1002_2, rfl, HA, HJ2, BK250, HI0, HK, HB⟩ := hcut
  cases kq with
  | zero => exact absurd HA.out (by simp [spec_l1Cur_inWord.j0])
  | succ kj2 =>
   have H := HA.out
   clear HA
   simp only [spec_l1Cur_inWord.j0] at H
   by_cases c15 : x11_2 = true
   ·subst c15
    rw [if_pos rfl] at H
    replace H := Option.bind_eq_some_iff.mp H
    obtain ⟨⟨t255, t256, t257⟩, A160, H⟩ := H
    (try dsimp only at H)
    have A16 := xA A160
    clear A160
    simp only [Option.some.injEq, Prod.mk.injEq] at H
    obtain ⟨rfl, rfl, rfl⟩ := H
    go_wp2_with (first | (refine xG (some 13) Try.func382 #[.pointer (some ⟨g, 0, none⟩)] ?_; (with_reducible refine (spec_l1Cur_number.calls g s0_0 x1001_2 x1002_2 t255 t256 t257 w0 _ ?side1 ?side2 A16.out).mono ?_); (case side1 => exact xJ129_12_1 NB0_250.out HI0.out); (case side2 => exact xB2 (IsS129.ge HI0.out) GE250.out HB.out); rintro e w17 ⟨rfl, hi, hb, hk⟩; refine ⟨_, rfl, ?_⟩; replace BK250 := xkk hk BK250 NB250_0; replace HK := xA (KeepBut.trans (xH1 GW250.out HK.out) hk (.inl rfl)); replace HB := xA (hb); replace HI0 := xA (hi); (try clear hb hk hi)))
    go_ret
    exact ⟨xr, xJ129_12_1 NB0_250.out HI0.out, xB2 (IsS129.ge HI0.out) GE250.out HB.out, xH1 GW250.out HK.out⟩
   replace c15 := Bool.eq_false_iff.mpr c15
   subst c15
   rw [if_neg (show ¬ (false = true) by decide)] at H
   replace H := Option.bind_eq_some_iff.mp H
   obtain ⟨⟨t258, t259, t260⟩, A180, H⟩ := H
   (try dsimp only at H)
   have A18 := xA A180
   clear A180
   by_cases c19 : t258 = 0
   ·rw [if_pos c19] at H
    have c19b0 : (t258 == 0) = true := beq_iff_eq.mpr c19
    have c19b1 : (t258 != 0) = false := bne_eq_false_iff_eq.mpr c19
    clear c19
    obtain ⟨t261, A20, H⟩ := xO H
    (try dsimp only at H)
    simp only [Option.some.injEq, Prod.mk.injEq] at H
    obtain ⟨rfl, rfl, rfl⟩ := H
    go_wp2_with (first | (refine xq rfl ?_; first | (refine xG (some 15) Try.func229 #[.pointer (some ⟨g, 0, none⟩), .int .i64 5] ?_; (with_reducible refine (spec_l1Cur_pick.calls g s0_0 x1001_2 x1002_2 5 t258 t259 t260 w0 _ ?side1 ?side2 A18.out).mono ?_); (case side1 => exact xJ129_12_1 NB0_250.out HI0.out); (case side2 => exact xB2 (IsS129.ge HI0.out) GE250.out HB.out); rintro e w21 ⟨rfl, hi, hb, hk⟩; refine ⟨_, rfl, ?_⟩; replace BK250 := xkk hk BK250 NB250_0; replace HK := xA (KeepBut.trans (xH1 GW250.out HK.out) hk (.inl rfl)); replace HB := xA (hb); replace HI0 := xA (hi); (try clear hb hk hi); have hnb22 := NB250_0.out; have hnc22 := NB0_250.out; replace hz250 := blk_cell BK250.out; replace hy250 := blk_frozen BK250.out) | (refine xG (some 19) Try.func268 #[.agg #[.int .i64 a1_0, .bool a1_1]] ?_; (with_reducible refine (spec_wdLow.calls a1_0 a1_1 t261 _ A20.out).mono ?_); rintro e w24 ⟨rfl, hb⟩; refine ⟨_, rfl, ?_⟩; replace BK250 := xkb BK250 hb; replace HK := xA (KeepBut.trans (xH1 GW250.out HK.out) (KeepBut.of_below hb g none) (.inl rfl)); replace HB := xA (below_step (xB2 (IsS129.ge HI0.out) GE250.out HB.out) hb); replace HI0 := xA (IsS129.below (xJ129_12_1 NB0_250.out HI0.out) hb); (try clear hb))))
    go_ret
    exact ⟨xr, xJ129_12_1 NB0_250.out HI0.out, xB2 (IsS129.ge HI0.out) GE250.out HB.out, xH1 GW250.out HK.out⟩
   rw [if_neg c19] at H
   have c19b0 : (t258 == 0) = false := beq_eq_false_iff_ne.mpr c19
   have c19b1 : (t258 != 0) = true := bne_iff_ne.mpr c19
   by_cases c25 : t258 = 1
   ·rw [if_pos c25] at H
    have c25b0 : (t258 == 1) = true := beq_iff_eq.mpr c25
    have c25b1 : (t258 != 1) = false := bne_eq_false_iff_eq.mpr c25
    clear c25
    obtain ⟨t262, A26, H⟩ := xO H
    (try dsimp only at H)
    simp only [Option.some.injEq, Prod.mk.injEq] at H
    obtain ⟨rfl, rfl, rfl⟩ := H
    go_wp2_with (first | (refine xq rfl ?_; first | (refine xG (some 15) Try.func229 #[.pointer (some ⟨g, 0, none⟩), .int .i64 5] ?_; (with_reducible refine (spec_l1Cur_pick.calls g s0_0 x1001_2 x1002_2 5 t258 t259 t260 w0 _ ?side1 ?side2 A18.out).mono ?_); (case side1 => exact xJ129_12_1 NB0_250.out HI0.out); (case side2 => exact xB2 (IsS129.ge HI0.out) GE250.out HB.out); rintro e w27 ⟨rfl, hi, hb, hk⟩; refine ⟨_, rfl, ?_⟩; replace BK250 := xkk hk BK250 NB250_0; replace HK := xA (KeepBut.trans (xH1 GW250.out HK.out) hk (.inl rfl)); replace HB := xA (hb); replace HI0 := xA (hi); (try clear hb hk hi); have hnb28 := NB250_0.out; have hnc28 := NB0_250.out; replace hz250 := blk_cell BK250.out; replace hy250 := blk_frozen BK250.out) | (refine xG (some 23) Try.func269 #[.agg #[.int .i64 a1_0, .bool a1_1]] ?_; (with_reducible refine (spec_wdHigh.calls a1_0 a1_1 t262 _ A26.out).mono ?_); rintro e w30 ⟨rfl, hb⟩; refine ⟨_, rfl, ?_⟩; replace BK250 := xkb BK250 hb; replace HK := xA (KeepBut.trans (xH1 GW250.out HK.out) (KeepBut.of_below hb g none) (.inl rfl)); replace HB := xA (below_step (xB2 (IsS129.ge HI0.out) GE250.out HB.out) hb); replace HI0 := xA (IsS129.below (xJ129_12_1 NB0_250.out HI0.out) hb); (try clear hb))))
    go_ret
    exact ⟨xr, xJ129_12_1 NB0_250.out HI0.out, xB2 (IsS129.ge HI0.out) GE250.out HB.out, xH1 GW250.out HK.out⟩
   rw [if_neg c25] at H
   have c25b0 : (t258 == 1) = false := beq_eq_false_iff_ne.mpr c25
   have c25b1 : (t258 != 1) = true := bne_iff_ne.mpr c25
   obtain ⟨t263, A31, H⟩ := xO H
   (try dsimp only at H)
   replace H := Option.bind_eq_some_iff.mp H
   obtain ⟨⟨t264, t265, t266⟩, A320, H⟩ := H
   (try dsimp only at H)
   have A32 := xA A320
   clear A320
   by_cases c33 : 0 ≤ a1_0
   rotate_left
   ·rw [if_neg c33] at H
    exact absurd H (by simp)

   rw [if_pos c33] at H
   have c33b0 := eq_true c33
   have c33b1 : decide (0 ≤ a1_0) = true := decide_eq_true c33
   clear c33
   obtain ⟨ji34, hji34⟩ : ∃ j_ : Int, (shl .i64 1 a1_0) = j_ := ⟨_, rfl⟩
   (first | rw [hji34] at H | simp only [hji34] at H)
   (try rw [hji34] at A18)
   (try rw [hji34] at A31)
   (try rw [hji34] at A32)
   have hji34_ : (IntKind.i64.wrap (1 * 2 ^ min a1_0.toNat 64)) = ji34 := hji34
   have hji34z : a1_0 ≤ 64 → (IntKind.i64.wrap (1 * 2 ^ a1_0.toNat)) = ji34 := shl_small hji34
   have hji34u : (IntKind.i64.wrap (2 ^ min a1_0.toNat 64)) = ji34 := by have h_ := hji34_; rw [Int.one_mul] at h_; exact h_
   have hji34v : a1_0 ≤ 64 → (IntKind.i64.wrap (2 ^ a1_0.toNat)) = ji34 := fun hle_ => by have h_ := hji34z hle_; rw [Int.one_mul] at h_; exact h_
   have hji34y : (wrap64 (1 * 2 ^ min a1_0.toNat 64)) = ji34 := (i64_w _).symm.trans hji34_
   have hji34x : a1_0 ≤ 64 → (wrap64 (1 * 2 ^ a1_0.toNat)) = ji34 := fun h_ => (i64_w _).symm.trans (hji34z h_)
   by_cases c35 : (ji34) = 0
   ·rw [if_pos c35] at H
    exact absurd H (by simp)
   rw [if_neg c35] at H
   have c35b0 : ((ji34) == 0) = false := beq_eq_false_iff_ne.mpr c35
   have c35b1 : ((ji34) != 0) = true := bne_iff_ne.mpr c35
   simp only [Option.some.injEq, Prod.mk.injEq] at H
   obtain ⟨rfl, rfl, rfl⟩ := H
   try go_wp2_with (first | (refine xG (some 15) Try.func229 #[.pointer (some ⟨g, 0, none⟩), .int .i64 5] ?_; (with_reducible refine (spec_l1Cur_pick.calls g s0_0 x1001_2 x1002_2 5 t258 t259 t260 w0 _ ?side1 ?side2 A18.out).mono ?_); (case side1 => exact xJ129_12_1 NB0_250.out HI0.out); (case side2 => exact xB2 (IsS129.ge HI0.out) GE250.out HB.out); rintro e w36 ⟨rfl, hi, hb, hk⟩; refine ⟨_, rfl, ?_⟩; replace BK250 := xkk hk BK250 NB250_0; replace HK := xA (KeepBut.trans (xH1 GW250.out HK.out) hk (.inl rfl)); replace HB := xA (hb); replace HI0 := xA (hi); (try clear hb hk hi)))
   replace BK250 := xA (blk_drew BK250.out)
   replace HI0 := xA (IsS129.drew HI0.out)
   replace HK := xA (keep_drew HK.out)
   replace HB := xA (below_drew1 HB.out)
   refine start_ (n := 11) (S := fun w' => w'.cell? ⟨gb250, 0, none⟩ = some (.int .i64 a1_0) ∧ w'.cell? ⟨gb250, 1, none⟩ = some (.bool a1_1)) (ds := []) x4a0 (by kernel_rfl) rfl rfl ⟨(blk_cell BK250.out 0).trans rfl, (blk_cell BK250.out 1).trans rfl⟩ (fun hHeld => ?_); refine with_tabW spec_l1Cur_inWord.tab8 spec_l1Cur_inWord.bits8 (fun HT_ HW_ => ?_)
   generalize w36.drew = w37 at BK250 HI0 HK HB hHeld ⊢
   refine xP 2 26 x4a1 ?_
   refine xP 5 29 x4a2 ?_
   refine xT2 hHeld 0 24 x4a3 ?_
   refine xT2 hHeld 6 30 x4a4 ?_
   refine xP 7 31 x4a5 ?_
   refine xU 1 25 x4a6 (fun K hK => ?_)
   refine xY Try.func268 #[.agg #[.int .i64 a1_0, .bool a1_1]] ?_
   with_reducible refine (spec_wdLow.calls a1_0 a1_1 t263 _ A31.out).mono ?_
   rintro e w38 ⟨rfl, hb⟩
   refine ⟨_, rfl, ?_⟩
   replace BK250 := xkb BK250 hb
   replace HK := xA (KeepBut.trans (xH1 GW250.out HK.out) (KeepBut.of_below hb g none) (.inl rfl))
   replace HB := xA (below_step (xB2 (IsS129.ge HI0.out) GE250.out HB.out) hb)
   replace HI0 := xA (IsS129.below (xJ129_12_1 NB0_250.out HI0.out) hb)
   (try clear hb); (try clear hb2); (try clear hk); (try clear hi)
   refine hK.out _ _ ⟨(blk_cell BK250.out 0).trans rfl, (blk_cell BK250.out 1).trans rfl⟩ (fun hHeld => ?_)
   clear hK K
   refine xN ?_
   refine xU 3 27 x4a7 (fun K hK => ?_)
   refine xY Try.func229 #[.pointer (some ⟨g, 0, none⟩), .int .i64 256] ?_
   with_reducible refine (spec_l1Cur_pick.calls g s0_0 t259 t260 256 t264 t265 t266 w0 _ ?side1 ?side2 A32.out).mono ?_
   (case side1 => exact xJ129_12_1 NB0_250.out HI0.out)
   (case side2 => exact xB2 (IsS129.ge HI0.out) GE250.out HB.out)
   rintro e w39 ⟨rfl, hi, hb, hk⟩
   refine ⟨_, rfl, ?_⟩
   replace BK250 := xkk hk BK250 NB250_0
   replace HK := xA (KeepBut.trans (xH1 GW250.out HK.out) hk (.inl rfl))
   replace HB := xA (hb)
   replace HI0 := xA (hi)
   (try clear hb); (try clear hb2); (try clear hk); (try clear hi)
   refine hK.out _ _ ⟨(blk_cell BK250.out 0).trans rfl, (blk_cell BK250.out 1).trans rfl⟩ (fun hHeld => ?_)
   clear hK K
   refine xN ?_
   refine xP 4 28 x4a8 ?_
   refine xP 8 32 x4a9 ?_
   refine xP 9 33 x4a10 ?_
   refine xP 10 4 x4a11 ?_
   refine xDn ?_
   try go_wp2
   go_ret
   exact ⟨by first | rfl | (simp [errW_none, errW_some] <;> rfl) | (simp only [← hji34]; first | rfl | (simp [errW_none, errW_some] <;> rfl)) | (simp [*, errW_none, errW_some] <;> rfl), xJ129_12_1 NB0_250.out HI0.out, xB2 (IsS129.ge HI0.out) GE250.out HB.out, xH1 GW250.out HK.out⟩
/-! ### spec_DrawExactFirst: function 86 -/
def spec_DrawExactFirst.f (k : Nat) (l0 : List Int) : Option (Int × Int × Int × Int × Bool × Int × List Int) := (spec_l1Cur_first.f l0 0 0 9).bind fun bt269 => ((spec_l1Cur_inWord.f k l0 bt269.2.2.2.2.2.1 bt269.2.2.2.2.2.2 bt269.2.2.2.1 bt269.2.2.2.2.1).bind fun bt277 => ((spec_l1Cur_signal.f k l0 bt277.2.1 bt277.2.2 7 9).bind fun bt280 => (some (bt269.1, bt269.2.1, bt269.2.2.1, bt269.2.2.2.1, bt269.2.2.2.2.1, bt277.1, bt280.1))))
theorem spec_DrawExactFirst.mono : ∀ a0 k, LeO (spec_DrawExactFirst.f k a0) (spec_DrawExactFirst.f (k + 1) a0) := by
 intro a0 k
 have m0 := @spec_l1Cur_inWord.mono
 have m1 := @spec_l1Cur_signal.mono
 unfold spec_DrawExactFirst.f
 exact xM
def spec_DrawExactFirst.T3 : Bool × List (List Nat × List Nat) := (true, [([], []), ([], []), ([], []), ([2], [2]), ([1, 3], [1, 3]), ([], []), ([5, 4], [5]), ([0, 6, 0], [0]), ([4, 7, 0, 1, 2, 3, 4, 7], [4]), ([6, 8, 0, 1, 2, 3, 4, 5, 6, 7, 8], [6])])
def spec_DrawExactFirst.B3 : List Nat := [0, 0, 0, 4, 14, 0, 62, 127, 255, 511]
theorem spec_DrawExactFirst.tab3 : rtab .any (opsOf Try.f86 3) = spec_DrawExactFirst.T3 := by kernel_rfl
theorem spec_DrawExactFirst.bits3 : waitsOk spec_DrawExactFirst.T3.2 spec_DrawExactFirst.B3 = true := by kernel_rfl
set_option maxHeartbeats 200000000 in
set_option maxRecDepth 100000 in
theorem spec_DrawExactFirst.calls (k : Nat) (A0 : Option Addr) (c0 : Nat) (l0 : List Int) (r1 : Int) (r2 : Int) (r3 : Int) (r4 : Int) (r5 : Bool) (r6 : Int) (r7 : List Int) (w : World) (hr0 : Kd.C (Kd.int .u8) w A0 l0.length l0) (hc0 : l0.length ≤ c0) (h : spec_DrawExactFirst.f k l0 = some (r1, r2, r3, r4, r5, r6, r7)) :
  Calls Try.prog 86 #[.slice A0 l0.length c0] w fun e w' => ∃ v6_ : Value, e = .returned (.tuple #[.agg #[.int .i64 r1, .int .i64 r2, .int .i64 r3, .int .i64 r4, .bool r5], .int .i64 r6, v6_]) ∧ Kd.R (Kd.int .i64) 3 w' w.heap.size (fun _ => True) v6_ r7 ∧ Below w.heap.size w w' := by
 have hu62 := Try.underlying62
 have hu129 := Try.underlying129
 have hu46 := Try.underlying46
 have HR0 := xA hr0
 have HC0 := xA hc0
 clear hr0 hc0
 have HB := xA (Below.refl w.heap.size w)
 have H : ((spec_l1Cur_first.f l0 0 0 9).bind fun bt269 => ((spec_l1Cur_inWord.f k l0 bt269.2.2.2.2.2.1 bt269.2.2.2.2.2.2 bt269.2.2.2.1 bt269.2.2.2.2.1).bind fun bt277 => ((spec_l1Cur_signal.f k l0 bt277.2.1 bt277.2.2 7 9).bind fun bt280 => (some (bt269.1, bt269.2.1, bt269.2.2.1, bt269.2.2.2.1, bt269.2.2.2.2.1, bt277.1, bt280.1))))) = some (r1, r2, r3, r4, r5, r6, r7) := h
 clear h
 replace H := Option.bind_eq_some_iff.mp H
 obtain ⟨⟨t269, t270, t271, t272, t273, t274, t275⟩, A20, H⟩ := H
 (try dsimp only at H)
 have A2 := xA A20
 clear A20
 replace H := Option.bind_eq_some_iff.mp H
 obtain ⟨⟨t277, t278, t279⟩, A30, H⟩ := H
 (try dsimp only at H)
 have A3 := xA A30
 clear A30
 replace H := Option.bind_eq_some_iff.mp H
 obtain ⟨⟨t280, t283, t284⟩, A40, H⟩ := H
 (try dsimp only at H)
 have A4 := xA A40
 clear A40
 simp only [Option.some.injEq, Prod.mk.injEq] at H
 obtain ⟨rfl, rfl, rfl, rfl, rfl, rfl, rfl⟩ := H
 go_enter Try.func86, Try.ntmps86
 try go_wp2_with (first | (refine xg 2 rfl ?_; refine xV 2 #[.int .i64 0, .int .i64 0, .int .i64 0, .int .i64 0, .bool false] 62 ?_; intro gb267 hg w5 hbox hb; have BK267 := xA (hbox); have GW267 := xgw hg (below_size (xB HB.out)); have GE267 := GW267; replace HB := xA (below_step (xB HB.out) hb); clear hb hbox hg) | (refine xg 9 rfl ?_; refine xV 9 #[.slice A0 l0.length c0, .int .i64 0, .int .u64 0] 129 ?_; intro gb268 hg w6 hbox hb; have HI268 := xA ((show IsS129 w _ gb268 l0 0 0 from ⟨_, _, hbox, (by rw [hg]; exact (below_size (xB1 GE267.out HB.out)) : w.heap.size ≤ gb268), HR0.out⟩)); replace HB := xA (below_step (xB1 GE267.out HB.out) hb); have NB267_268 := xnl hg BK267; have NB268_267 := xng hg BK267; replace BK267 := xkb BK267 hb; clear hb hbox hg) | (refine xG (some 11) Try.func281 #[.pointer (some ⟨gb268, 0, none⟩), .int .i64 9] ?_; (with_reducible refine (spec_l1Cur_first.calls gb268 l0 0 0 9 t269 t270 t271 t272 t273 t274 t275 w _ ?side1 ?side2 A2.out).mono ?_); (case side1 => exact xJ129_12_1 NB268_267.out HI268.out); (case side2 => exact xB2 (IsS129.ge HI268.out) GE267.out HB.out); rintro e w7 ⟨rfl, hi, hb, hk⟩; refine ⟨_, rfl, ?_⟩; replace BK267 := xkk hk BK267 NB267_268; replace HB := xA (hb); replace HI268 := xA (hi); (try clear hb hk hi)) | (refine xg 6 rfl ?_; refine xV 6 #[.int .i64 0, .int .i64 0, .int .i64 0, .int .i64 0, .bool false] 62 ?_; intro gb276 hg w8 hbox hb; have BK276 := xA (hbox); have GW276 := xgw hg (below_size (xB2 (IsS129.ge HI268.out) GE267.out HB.out)); have GE276 := GW276; replace HB := xA (below_step (xB2 (IsS129.ge HI268.out) GE267.out HB.out) hb); have NB267_276 := xnl hg BK267; have NB276_267 := xng hg BK267; replace BK267 := xkb BK267 hb; have NB268_276 := xA ((by rw [hg]; exact Nat.ne_of_lt (IsS129.lt (show IsS129 w _ gb268 l0 t274 t275 from xJ129_12_1 NB268_267.out HI268.out)) : gb268 ≠ gb276)); have NB276_268 := xA ((by rw [hg]; exact Nat.ne_of_gt (IsS129.lt (show IsS129 w _ gb268 l0 t274 t275 from xJ129_12_1 NB268_267.out HI268.out)) : gb276 ≠ gb268)); replace HI268 := xA (IsS129.below (xJ129_12_1 NB268_267.out HI268.out) hb); clear hb hbox hg; have hnb9 := NB276_267.out; have hnc9 := NB267_276.out; have hnb10 := NB276_268.out; have hnc10 := NB268_276.out; replace hz276 := blk_cell BK276.out; replace hy276 := blk_frozen BK276.out))
 have n0_ : Aside0 ((((((w8.setCell ⟨gb276, 0, none⟩ (.int .i64 t269)).setCell ⟨gb276, 1, none⟩ (.int .i64 t270)).setCell ⟨gb276, 2, none⟩ (.int .i64 t271)).setCell ⟨gb276, 3, none⟩ (.int .i64 t272)).setCell ⟨gb276, 4, none⟩ (.bool t273)).heap[gb267]? = some (.cells #[.int .i64 0, .int .i64 0, .int .i64 0, .int .i64 0, .bool false] 62 (0, 0))) := ⟨by (with_reducible repeat (first | refine blk_drewN ?_ _ | refine blk_drew ?_ | refine blk_alloc ?_ _)); refine blk_far ?_ NB267_276.out _; (with_reducible repeat (first | refine blk_drewN ?_ _ | refine blk_drew ?_ | refine blk_alloc ?_ _)); refine blk_far ?_ NB267_276.out _; (with_reducible repeat (first | refine blk_drewN ?_ _ | refine blk_drew ?_ | refine blk_alloc ?_ _)); refine blk_far ?_ NB267_276.out _; (with_reducible repeat (first | refine blk_drewN ?_ _ | refine blk_drew ?_ | refine blk_alloc ?_ _)); refine blk_far ?_ NB267_276.out _; (with_reducible repeat (first | refine blk_drewN ?_ _ | refine blk_drew ?_ | refine blk_alloc ?_ _)); refine blk_far ?_ NB267_276.out _; (with_reducible repeat (first | refine blk_drewN ?_ _ | refine blk_drew ?_ | refine blk_alloc ?_ _)); exact BK267.out⟩
 have n1_ : Aside0 ((((((w8.setCell ⟨gb276, 0, none⟩ (.int .i64 t269)).setCell ⟨gb276, 1, none⟩ (.int .i64 t270)).setCell ⟨gb276, 2, none⟩ (.int .i64 t271)).setCell ⟨gb276, 3, none⟩ (.int .i64 t272)).setCell ⟨gb276, 4, none⟩ (.bool t273)).heap[gb276]? = some (.cells #[.int .i64 t269, .int .i64 t270, .int .i64 t271, .int .i64 t272, .bool t273] 62 (0, 0))) := ⟨by (with_reducible repeat (first | refine blk_drewN ?_ _ | refine blk_drew ?_ | refine blk_alloc ?_ _)); refine blk_put (cs := #[.int .i64 t269, .int .i64 t270, .int .i64 t271, .int .i64 t272, .bool false]) ?_ 4 _ rfl; (with_reducible repeat (first | refine blk_drewN ?_ _ | refine blk_drew ?_ | refine blk_alloc ?_ _)); refine blk_put (cs := #[.int .i64 t269, .int .i64 t270, .int .i64 t271, .int .i64 0, .bool false]) ?_ 3 _ rfl; (with_reducible repeat (first | refine blk_drewN ?_ _ | refine blk_drew ?_ | refine blk_alloc ?_ _)); refine blk_put (cs := #[.int .i64 t269, .int .i64 t270, .int .i64 0, .int .i64 0, .bool false]) ?_ 2 _ rfl; (with_reducible repeat (first | refine blk_drewN ?_ _ | refine blk_drew ?_ | refine blk_alloc ?_ _)); refine blk_put (cs := #[.int .i64 t269, .int .i64 0, .int .i64 0, .int .i64 0, .bool false]) ?_ 1 _ rfl; (with_reducible repeat (first | refine blk_drewN ?_ _ | refine blk_drew ?_ | refine blk_alloc ?_ _)); refine blk_put (cs := #[.int .i64 0, .int .i64 0, .int .i64 0, .int .i64 0, .bool false]) ?_ 0 _ rfl; (with_reducible repeat (first | refine blk_drewN ?_ _ | refine blk_drew ?_ | refine blk_alloc ?_ _)); exact BK276.out⟩
 have n2_ : Aside0 (IsS129 w (((((w8.setCell ⟨gb276, 0, none⟩ (.int .i64 t269)).setCell ⟨gb276, 1, none⟩ (.int .i64 t270)).setCell ⟨gb276, 2, none⟩ (.int .i64 t271)).setCell ⟨gb276, 3, none⟩ (.int .i64 t272)).setCell ⟨gb276, 4, none⟩ (.bool t273)) gb268 l0 t274 t275) := ⟨xJ129_12_2 NB268_267.out NB268_276.out HI268.out⟩
 have n3_ : Aside0 (Below w.heap.size w (((((w8.setCell ⟨gb276, 0, none⟩ (.int .i64 t269)).setCell ⟨gb276, 1, none⟩ (.int .i64 t270)).setCell ⟨gb276, 2, none⟩ (.int .i64 t271)).setCell ⟨gb276, 3, none⟩ (.int .i64 t272)).setCell ⟨gb276, 4, none⟩ (.bool t273))) := ⟨xB3 (IsS129.ge HI268.out) GE267.out GE276.out HB.out⟩
 (try clear BK267)
 (try clear BK276)
 (try clear HI268)
 (try clear HB)
 generalize (((((w8.setCell ⟨gb276, 0, none⟩ (.int .i64 t269)).setCell ⟨gb276, 1, none⟩ (.int .i64 t270)).setCell ⟨gb276, 2, none⟩ (.int .i64 t271)).setCell ⟨gb276, 3, none⟩ (.int .i64 t272)).setCell ⟨gb276, 4, none⟩ (.bool t273)) = w12 at n0_ n1_ n2_ n3_ ⊢
 have BK267 := n0_
 have BK276 := n1_
 have HI268 := n2_
 have HB := n3_
 clear n0_ n1_ n2_ n3_
 replace BK267 := xA (blk_drew BK267.out)
 replace BK276 := xA (blk_drew BK276.out)
 replace HI268 := xA (IsS129.drew HI268.out)
 replace HB := xA (below_drew1 HB.out)
 refine start_ (n := 10) (S := fun w' => w'.cell? ⟨gb276, 0, none⟩ = some (.int .i64 t269) ∧ w'.cell? ⟨gb276, 1, none⟩ = some (.int .i64 t270) ∧ w'.cell? ⟨gb276, 2, none⟩ = some (.int .i64 t271) ∧ w'.cell? ⟨gb276, 3, none⟩ = some (.int .i64 t272) ∧ w'.cell? ⟨gb276, 4, none⟩ = some (.bool t273)) (ds := []) x4a12 (by kernel_rfl) rfl rfl ⟨(blk_cell BK276.out 0).trans rfl, (blk_cell BK276.out 1).trans rfl, (blk_cell BK276.out 2).trans rfl, (blk_cell BK276.out 3).trans rfl, (blk_cell BK276.out 4).trans rfl⟩ (fun hHeld => ?_); refine with_tabW spec_DrawExactFirst.tab3 spec_DrawExactFirst.bits3 (fun HT_ HW_ => ?_)
 generalize w12.drew = w13 at BK267 BK276 HI268 HB hHeld ⊢
 refine xP 1 13 x4a13 ?_
 refine xP 2 14 x4a14 ?_
 refine xP 5 17 x4a15 ?_
 refine xT5 hHeld 0 12 x4a16 ?_
 refine xT5 hHeld 3 15 x4a17 ?_
 refine xU 4 16 x4a18 (fun K hK => ?_)
 refine xY Try.func282 #[.pointer (some ⟨gb268, 0, none⟩), .agg #[.int .i64 t272, .bool t273]] ?_
 with_reducible refine (spec_l1Cur_inWord.calls k gb268 l0 t274 t275 t272 t273 t277 t278 t279 w _ ?side1 ?side2 A3.out).mono ?_
 (case side1 => exact xJ129_12_2 NB268_267.out NB268_276.out HI268.out)
 (case side2 => exact xB3 (IsS129.ge HI268.out) GE267.out GE276.out HB.out)
 rintro e w14 ⟨rfl, hi, hb, hk⟩
 refine ⟨_, rfl, ?_⟩
 replace BK267 := xkk hk BK267 NB267_268
 replace BK276 := xkk hk BK276 NB276_268
 replace HB := xA (hb)
 replace HI268 := xA (hi)
 (try clear hb); (try clear hb2); (try clear hk); (try clear hi)
 refine hK.out _ _ ⟨(blk_cell BK276.out 0).trans rfl, (blk_cell BK276.out 1).trans rfl, (blk_cell BK276.out 2).trans rfl, (blk_cell BK276.out 3).trans rfl, (blk_cell BK276.out 4).trans rfl⟩ (fun hHeld => ?_)
 clear hK K
 refine xN ?_
 refine xU 6 18 x4a19 (fun K hK => ?_)
 refine xY Try.func214 #[.pointer (some ⟨gb268, 0, none⟩), .int .i64 7, .int .i64 9] ?_
 with_reducible refine (spec_l1Cur_signal.calls k gb268 l0 t278 t279 7 9 t280 t283 t284 w _ ?side1 ?side2 A4.out).mono ?_
 (case side1 => exact xJ129_12_2 NB268_267.out NB268_276.out HI268.out)
 (case side2 => exact xB3 (IsS129.ge HI268.out) GE267.out GE276.out HB.out)
 rintro e w15 ⟨v281, rfl, ho0, hi, hb, hk⟩
 refine ⟨_, rfl, ?_⟩
 replace BK267 := xkk hk BK267 NB267_268
 replace BK276 := xkk hk BK276 NB276_268
 have HO282 := xA (Kd.R_lower ho0 (below_size (xB3 (IsS129.ge HI268.out) GE267.out GE276.out HB.out)))
 replace HB := xA (hb)
 replace HI268 := xA (hi)
 (try clear hb); (try clear hb2); (try clear hk); (try clear hi)
 (try clear ho0)
 refine hK.out _ _ ⟨(blk_cell BK276.out 0).trans rfl, (blk_cell BK276.out 1).trans rfl, (blk_cell BK276.out 2).trans rfl, (blk_cell BK276.out 3).trans rfl, (blk_cell BK276.out 4).trans rfl⟩ (fun hHeld => ?_)
 clear hK K
 refine xN ?_
 refine one_ (i := 7) (N := none) x4a20 rfl rfl (one_of HT_.out (by kernel_rfl)) (by decide) (fun K hK => ?_)
 have hs16 : w15.cell? ⟨gb267, 0, none⟩ = some (.int .i64 0) := (blk_cell BK267.out 0).trans rfl
 have hfs16 := blk_frozen BK267.out 0
 have hns16_1 := NB276_267.out
 have hms16_1 := NB267_276.out
 have hs17 : w15.cell? ⟨gb267, 1, none⟩ = some (.int .i64 0) := (blk_cell BK267.out 1).trans rfl
 have hfs17 := blk_frozen BK267.out 1
 have hns17_1 := NB276_267.out
 have hms17_1 := NB267_276.out
 have hs18 : w15.cell? ⟨gb267, 2, none⟩ = some (.int .i64 0) := (blk_cell BK267.out 2).trans rfl
 have hfs18 := blk_frozen BK267.out 2
 have hns18_1 := NB276_267.out
 have hms18_1 := NB267_276.out
 have hs19 : w15.cell? ⟨gb267, 3, none⟩ = some (.int .i64 0) := (blk_cell BK267.out 3).trans rfl
 have hfs19 := blk_frozen BK267.out 3
 have hns19_1 := NB276_267.out
 have hms19_1 := NB267_276.out
 have hs20 : w15.cell? ⟨gb267, 4, none⟩ = some (.bool false) := (blk_cell BK267.out 4).trans rfl
 have hfs20 := blk_frozen BK267.out 4
 have hns20_1 := NB276_267.out
 have hms20_1 := NB267_276.out
 refine skip_ (w1 := ?_) (by rfl) rfl ?_ ?_
 rotate_left
 ·go_simp
  rfl
 refine hK.out _ _ ⟨(xCf1 NB276_267.out hHeld.1), (xCf1 NB276_267.out hHeld.2.1), (xCf1 NB276_267.out hHeld.2.2.1), (xCf1 NB276_267.out hHeld.2.2.2.1), (xCf1 NB276_267.out hHeld.2.2.2.2)⟩ (fun hHeld => ?_)
 clear hK K
 refine xP 8 3 x4a21 ?_
 refine xP 9 4 x4a22 ?_
 refine xDn ?_
 try go_wp2
 refine bodyPost_ret (results_ctt rfl _ _ gb267 62 #[.int .i64 t269, .int .i64 t270, .int .i64 t271, .int .i64 t272, .bool t273] (0, 0) _ rfl (xPt0 BK267.out) Try.underlying62 rfl (by kernel_rfl)) rfl ?_
 exact ⟨_, xr, by (with_reducible repeat (first | apply Kd.R_alloc | apply Kd.R_drewN | apply Kd.R_drew)); exact Kd.R_mono (Kd.R_far (p := ⟨gb267, 4, none⟩) (Kd.R_far (p := ⟨gb267, 3, none⟩) (Kd.R_far (p := ⟨gb267, 2, none⟩) (Kd.R_far (p := ⟨gb267, 1, none⟩) (Kd.R_far (p := ⟨gb267, 0, none⟩) (Kd.R_types HO282.out BK267.out (by decide)) (fun _ hk => hk.2) (.int .i64 t269)) (fun _ hk => hk.2) (.int .i64 t270)) (fun _ hk => hk.2) (.int .i64 t271)) (fun _ hk => hk.2) (.int .i64 t272)) (fun _ hk => hk.2) (.bool t273)) (fun _ hk => trivial), xB3 (IsS129.ge HI268.out) GE267.out GE276.out HB.out⟩

/-! ### impl_isSignal_c1: function 370 -/
def impl_isSignal_c1.f (a0 : Int) : Option (Bool) := (impl_in.f a0 (-100000) 100000).bind fun t285 => (some (!t285))
set_option maxHeartbeats 200000000 in
set_option maxRecDepth 100000 in
theorem impl_isSignal_c1.calls (a0 : Int) (r : Bool) (w : World) (h : impl_isSignal_c1.f a0 = some r) :
  Calls Try.prog 370 #[.int .i64 a0] w fun e w' => e = .returned (.bool r) ∧ Drawn0 w w' := by
 have H : ((impl_in.f a0 (-100000) 100000).bind fun t285 => (some (!t285))) = some r := h
 clear h
 obtain ⟨t285, A2, H⟩ := xO H
 (try dsimp only at H)
 obtain rfl := Option.some.inj H
 go_enter Try.func370, Try.ntmps370
 go_wp2_with (first | (refine xG (some 4) Try.func223 #[.int .i64 a0, .int .i64 (-100000), .int .i64 100000] ?_; (with_reducible refine (impl_in.calls a0 (-100000) 100000 t285 _ A2.out).mono ?_); rintro e w' ⟨rfl, ⟨nd, rfl⟩⟩; refine ⟨_, rfl, ?_⟩))
 go_ret
 exact ⟨by first | rfl | (simp; done) | (simp [*]; done), by repeat (first | exact Drawn0.refl _ | apply Drawn0.step)⟩

end Go.Proofs.Ytjplcongellcmaa.PFnFirstRuns
