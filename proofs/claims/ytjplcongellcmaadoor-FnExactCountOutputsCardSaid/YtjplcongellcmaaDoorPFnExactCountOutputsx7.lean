/- What each Go function that the statement FnExactCountOutputs reaches answers, proved call by call. No condition beyond those that the theorems print. (Written by wip/tools/xprint.py of this repo, over the kit's print.) -/
import Derived.Test.YtjplcongellcmaaDoorPFnExactCountOutputsx0
import Derived.Test.YtjplcongellcmaaDoorPFnExactCountOutputsx6
namespace Go.Proofs.YtjplcongellcmaaDoor.PFnExactCountOutputs
open Go.RowKit Go.Proofs.YtjplcongellcmaaDoorW.PrintWords Go.Proofs.YtjplcongellcmaaDoorW.PrintLast Go.Proofs.YtjplcongellcmaaDoorW.PrintMore
attribute [local go_sem] max2_int min2_int max_two min_two max_three min_three max_four min_four   -- for this text's walks alone
set_option linter.unusedVariables false
set_option linter.unusedSimpArgs false
def x7a0 : Array Bool := #[Zz,Zz,Zz,Zz,Zz,Zz,Zz,Zz]
def x7a1 : Array Bool := #[Yy,Zz,Zz,Zz,Zz,Zz,Zz,Zz]
def x7a2 : Array Bool := #[Yy,Zz,Zz,Yy,Zz,Zz,Zz,Zz]
def x7a3 : Array Bool := #[Yy,Zz,Zz,Yy,Yy,Zz,Zz,Zz]
def x7a4 : Array Bool := #[Yy,Yy,Zz,Yy,Yy,Zz,Zz,Zz]
def x7a5 : Array Bool := #[Yy,Yy,Yy,Yy,Yy,Zz,Zz,Zz]
def x7a6 : Array Bool := #[Yy,Yy,Yy,Yy,Yy,Yy,Zz,Zz]
def x7a7 : Array Bool := #[Yy,Yy,Yy,Yy,Yy,Yy,Yy,Zz]
def x7a8 : Array Bool := #[Yy,Yy,Yy,Yy,Yy,Yy,Yy,Yy]

/-! ### impl_listText: function 67 -/
def impl_listText.l0 : Nat → List ByteArray → List Int → Int → Int → Option (ByteArray)
 | 0, _, _, _, _ => none
 | k + 1, x3, x10, x11, x12 => if x12 < x11 then (if 0 ≤ x12 then (if x12 < (x10.length : Int) then ((strconv_Itoa_88.f (rd x10 x12)).bind fun t299 => (if x3.length < 8796093022208 then (impl_listText.l0 k (x3 ++ [t299]) x10 x11 (wrap64 (x12 + 1))) else (none))) else (none)) else (none)) else ((strings_Join.f x3 (⟨#[44]⟩ : ByteArray)).bind fun t303 => (some t303))
def impl_listText.f (k : Nat) (l0 : List Int) : Option (ByteArray) := if (l0.length : Int) = 0 then (some (⟨#[45]⟩ : ByteArray)) else (impl_listText.l0 k (([] : List ByteArray)) l0 (l0.length : Int) 0)
theorem impl_listText.mono_l : ∀ k, (∀ y0 y1 y2 y3, LeO (impl_listText.l0 k y0 y1 y2 y3) (impl_listText.l0 (k + 1) y0 y1 y2 y3))
 | 0 => fun _ _ _ _ r h => by simp [impl_listText.l0] at h
 | k + 1 => by
  have ih0 := impl_listText.mono_l k
  intros
  unfold impl_listText.l0
  exact xM
theorem impl_listText.mono : ∀ a0 k, LeO (impl_listText.f k a0) (impl_listText.f (k + 1) a0) := by
 intro a0 k
 have ih0 := impl_listText.mono_l k
 unfold impl_listText.f
 exact xM
set_option maxHeartbeats 200000000 in
set_option maxRecDepth 100000 in
theorem impl_listText.calls (k : Nat) (A0 : Option Addr) (c0 : Nat) (l0 : List Int) (r : ByteArray) (w : World) (hr0 : Kd.C (Kd.int .i64) w A0 l0.length l0) (hc0 : l0.length ≤ c0) (hgl_ : GLob w) (h : impl_listText.f k l0 = some r) :
  Calls Tryd.prog 67 #[.slice A0 l0.length c0] w fun e w' => e = .returned (.string r) ∧ Below w.heap.size w w' := by
 have HGL := xA hgl_
 clear hgl_
 have HR0 := xA hr0
 have HC0 := xA hc0
 clear hr0 hc0
 have HB := xA (Below.refl w.heap.size w)
 have H : (if (l0.length : Int) = 0 then (some (⟨#[45]⟩ : ByteArray)) else (impl_listText.l0 k (([] : List ByteArray)) l0 (l0.length : Int) 0)) = some r := h
 clear h
 by_cases c2 : (l0.length : Int) = 0
 ·rw [if_pos c2] at H
  have c2b0 : ((l0.length : Int) == 0) = true := beq_iff_eq.mpr c2
  have c2b1 : ((l0.length : Int) != 0) = false := bne_eq_false_iff_eq.mpr c2
  clear c2
  obtain rfl := Option.some.inj H
  go_enter Tryd.func67, Tryd.ntmps67
  go_wp2
  go_ret
  exact ⟨xr, xB HB.out⟩
 rw [if_neg c2] at H
 have c2b0 : ((l0.length : Int) == 0) = false := beq_eq_false_iff_ne.mpr c2
 have c2b1 : ((l0.length : Int) != 0) = true := bne_iff_ne.mpr c2
 have c2b2 : ¬ (l0 = []) := fun h_ => c2 (by rw [h_]; rfl)
 obtain ⟨y295, hy295⟩ : ∃ y_ : List ByteArray, y_ = (([] : List ByteArray)) := ⟨_, rfl⟩
 replace H : (impl_listText.l0 k y295 l0 (l0.length : Int) 0) = some r := by first | (rw [hy295]; with_reducible exact H) | (have H2_ := (Option.bind_some _ _).symm.trans H; rw [hy295]; with_reducible exact H2_) | (have H2_ := (Option.bind_some _ _).symm.trans H; with_reducible exact H2_) | with_reducible exact H | (rw [hy295]; exact H) | exact H
 have Ny295 := xA hy295
 clear hy295
 have H' := xA H
 clear H
 go_enter Tryd.func67, Tryd.ntmps67
 go_wp2_with (first | ((with_reducible refine gate_dst (N := 9) rfl ?_); refine Kd.R_lit Kd.string _ 9 ?hg (N := 9) ?hd (xs := ([] : List ByteArray)) (inner := []) (ok := fun _ => True) (okp := fun _ => True) ?hr ?hp (fun _ hk => hk) trivial (Below.refl _ _) (Nat.le_refl _) (by simp) ?_; (case hd => rfl); (case hg => rfl); (case hr => first | (go_simp; done) | (go_simp; rfl)); (case hp => exact (Reps.none _ _)); intro v296 w3 ho4 hb hg_ hnew_; clear hg_ hnew_; (first | rw [← Ny295.out] at ho4 | (simp only [Int.reduceToNat] at ho4; rw [← Ny295.out] at ho4)); have HO297 := xA (Kd.R_lower ho4 (below_size (xB HB.out))); replace HB := xA (below_step (xB HB.out) hb); clear hb ho4))
 go_loopg [3, 12] k (fun kq v3 v12 w' => ∃ (x3_1 : List ByteArray) (x12_1 : Int), v12 = .int .i64 x12_1 ∧ Aside0 (impl_listText.l0 kq x3_1 l0 (l0.length : Int) x12_1 = some r) ∧ Aside0 (kq ≤ k) ∧ Aside0 (Kd.R Kd.string 9 w' w.heap.size (fun _ => True) v3 x3_1) ∧ Aside0 (Below w.heap.size w w'))
 case atStart => exact ⟨(y295), (0), xs, H', ⟨Nat.le_refl _⟩, ⟨xR HO297.out⟩, ⟨xB HB.out⟩⟩
 case round =>
  clear H'
  try clear c2
  try clear c2b0
  try clear c2b1
  try clear c2b2
  obtain ⟨x3_1, x12_1, rfl, HA, HK1, HO_3, HB⟩ := hrel
  cases gk with
  | zero => exact absurd HA.out (by simp [impl_listText.l0])
  | succ k1 =>
   have H := HA.out
   clear HA
   simp only [impl_listText.l0] at H
   by_cases c5 : x12_1 < (l0.length : Int)
   rotate_left
   ·rw [if_neg c5] at H
    have c5b0 : decide (x12_1 < (l0.length : Int)) = false := decide_eq_false c5
    clear c5
    obtain ⟨t303, A12, H⟩ := xO H
    (try dsimp only at H)
    obtain rfl := Option.some.inj H
    obtain ⟨Ao13, co13, eo13⟩ := Kd.R_slice HO_3.out
    subst eo13
    go_wp2_with (first | (refine xG (some 23) Tryd.func89 #[.slice Ao13 x3_1.length co13, .string (⟨#[44]⟩ : ByteArray)] ?_; (with_reducible refine (strings_Join.calls _ _ x3_1 (⟨#[44]⟩ : ByteArray) t303 _ ?side1 ?side2 ?side3 A12.out).mono ?_); (case side1 => exact xC ((Kd.R_reads' HO_3.out).2.2)); (case side3 => exact strings_Join.spot HO_3.out); (case side2 => exact (Kd.R_reads' HO_3.out).2.1); rintro e w14 ⟨rfl, hb⟩; refine ⟨_, rfl, ?_⟩; replace HO_3 := xA (Kd.R_below (xR HO_3.out) hb); replace HB := xA (below_step (xB HB.out) hb); (try clear hb)))
    go_ret
    exact ⟨xr, xB HB.out⟩

   rw [if_pos c5] at H
   have c5b0 : decide (x12_1 < (l0.length : Int)) = true := decide_eq_true c5
   clear c5
   by_cases c6 : 0 ≤ x12_1
   rotate_left
   ·rw [if_neg c6] at H
    exact absurd H (by simp)
   rw [if_pos c6] at H
   have c6b0 : decide (0 ≤ x12_1) = true := decide_eq_true c6
   clear c6
   by_cases c7 : x12_1 < (l0.length : Int)
   rotate_left
   ·rw [if_neg c7] at H
    exact absurd H (by simp)
   rw [if_pos c7] at H
   have c7b0 : decide (x12_1 < (l0.length : Int)) = true := decide_eq_true c7
   clear c7
   obtain ⟨t299, A8, H⟩ := xO H
   (try dsimp only at H)
   by_cases c9 : x3_1.length < 8796093022208
   rotate_left
   ·rw [if_neg c9] at H
    exact absurd H (by simp)
   rw [if_pos c9] at H
   have LMc9 := xA c9
   clear c9
   obtain ⟨y300, hy300⟩ : ∃ y_ : List ByteArray, y_ = (x3_1 ++ [t299]) := ⟨_, rfl⟩
   replace H : (impl_listText.l0 k1 y300 l0 (l0.length : Int) (wrap64 (x12_1 + 1))) = some r := by first | (rw [hy300]; with_reducible exact H) | (have H2_ := (Option.bind_some _ _).symm.trans H; rw [hy300]; with_reducible exact H2_) | (have H2_ := (Option.bind_some _ _).symm.trans H; with_reducible exact H2_) | with_reducible exact H | (rw [hy300]; exact H) | exact H
   have Ny300 := xA hy300
   clear hy300
   have H' := xA H
   clear H
   have p298 : 0 ≤ (x12_1 : Int) := of_decide_eq_true (by first | (with_reducible assumption) | assumption)
   have q298 : x12_1 < (l0.length : Int) := of_decide_eq_true (by first | (with_reducible assumption) | assumption)
   obtain ⟨ad298, e298, hx298_0⟩ := Kd.at_int HR0.out x12_1 p298 q298
   cases e298
   replace hx298_0 := (HB.out.cell (World.block_lt_of_cell? w _ hx298_0)).trans hx298_0
   replace p298 := eq_true p298
   replace q298 := eq_true q298
   go_wp2_with (first | (refine xG (some 18) Tryd.func88 #[.int .i64 (rd l0 x12_1)] ?_; (with_reducible refine (strconv_Itoa_88.calls (rd l0 x12_1) t299 _ ?sideg A8.out).mono ?_); (case sideg => exact GLob.below HGL.out (xB HB.out)); rintro e w10 ⟨rfl, hb⟩; refine ⟨_, rfl, ?_⟩; replace HO_3 := xA (Kd.R_below (xR HO_3.out) hb); replace HB := xA (below_step (xB HB.out) hb); (try clear hb)) | ((with_reducible refine gate_builtin (b := .append) (xs := #[.tmp 16, .tmp 19]) rfl ?_); at_builtin; refine Kd.R_append Kd.string (w0 := w) w.heap.size rfl (.tmp 16) (.tmp 19) 100 9 (.string ⟨#[]⟩) 16 rfl Tryd.underlying100 info9 rfl (by decide) (by omega) u3 x3_1 t299 [.string t299] (fun _ => True) (fun _ => False) rfl rfl ?aP (fun _ hk => hk.elim) ?aF ?aO ?aB ?aS ?aL ?_; (case aP => exact rfl); (case aB => exact (xB HB.out)); (case aF => exact (fun _ _ => trivial)); (case aO => exact (xR HO_3.out)); (case aS => exact (below_size (xB HB.out))); (case aL => have := LMc9.out; omega); intro v301 w11 ho hb hg hat; rw [← Ny300.out] at ho; replace HB := xA (hb); have HO302 := xA (ho); clear HO_3; clear ho hb hg hat))
   go_roundg k1
   case measure => have := HK1.out; omega
   case rel => exact ⟨(y300), (wrap64 (x12_1 + 1)), xs, H', ⟨by have := HK1.out; omega⟩, ⟨xR HO302.out⟩, ⟨xB HB.out⟩⟩
/-! ### impl_mod: function 92 -/
def impl_mod.f (a0 : Int) (a1 : Int) : Option (Int) := if a1 = 0 then (none) else (some (Int.tmod (wrap64 ((Int.tmod a0 a1) + a1)) a1))
set_option maxHeartbeats 200000000 in
set_option maxRecDepth 100000 in
theorem impl_mod.calls (a0 : Int) (a1 : Int) (r : Int) (w : World) (h : impl_mod.f a0 a1 = some r) :
  Calls Tryd.prog 92 #[.int .i64 a0, .int .i64 a1] w fun e w' => e = .returned (.int .i64 r) ∧ Drawn0 w w' := by
 have H : (if a1 = 0 then (none) else (some (Int.tmod (wrap64 ((Int.tmod a0 a1) + a1)) a1))) = some r := h
 clear h
 by_cases c3 : a1 = 0
 ·rw [if_pos c3] at H
  exact absurd H (by simp)
 rw [if_neg c3] at H
 have c3b0 : (a1 == 0) = false := beq_eq_false_iff_ne.mpr c3
 have c3b1 : (a1 != 0) = true := bne_iff_ne.mpr c3
 obtain rfl := Option.some.inj H
 go_enter Tryd.func92, Tryd.ntmps92
 go_wp2
 go_ret
 exact ⟨by first | rfl | (simp; done) | (simp [*]; done), by repeat (first | exact Drawn0.refl _ | apply Drawn0.step)⟩

/-! ### impl_Word_ends: function 131 -/
def impl_Word_ends.f (a0_0 : Int) (a0_1 : Bool) : Option (Int × Int) := if 0 ≤ (wrap64 (a0_0 - 1)) then (some (wrap64 (-(shl .i64 1 (wrap64 (a0_0 - 1)))), wrap64 ((shl .i64 1 (wrap64 (a0_0 - 1))) - 1))) else (none)
set_option maxHeartbeats 200000000 in
set_option maxRecDepth 100000 in
theorem impl_Word_ends.calls (a0_0 : Int) (a0_1 : Bool) (r1 : Int) (r2 : Int) (w : World) (h : impl_Word_ends.f a0_0 a0_1 = some (r1, r2)) :
  Calls Tryd.prog 131 #[.agg #[.int .i64 a0_0, .bool a0_1]] w fun e w' => e = .returned (.tuple #[.int .i64 r1, .int .i64 r2]) ∧ Below w.heap.size w w' := by
 have hu77 := Tryd.underlying77
 have HB := xA (Below.refl w.heap.size w)
 have H : (if 0 ≤ (wrap64 (a0_0 - 1)) then (some (wrap64 (-(shl .i64 1 (wrap64 (a0_0 - 1)))), wrap64 ((shl .i64 1 (wrap64 (a0_0 - 1))) - 1))) else (none)) = some (r1, r2) := h
 clear h
 obtain ⟨ji2, hji2⟩ : ∃ j_ : Int, (wrap64 (a0_0 - 1)) = j_ := ⟨_, rfl⟩
 (first | rw [hji2] at H | simp only [hji2] at H)
 have hji2w : (IntKind.i64.wrap (a0_0 - 1)) = ji2 := (i64_w _).trans hji2
 by_cases c3 : 0 ≤ (ji2)
 rotate_left
 ·rw [if_neg c3] at H
  exact absurd H (by simp)

 rw [if_pos c3] at H
 have c3b0 := eq_true c3
 have c3b1 : decide (0 ≤ (ji2)) = true := decide_eq_true c3
 clear c3
 obtain ⟨ji4, hji4⟩ : ∃ j_ : Int, (shl .i64 1 (ji2)) = j_ := ⟨_, rfl⟩
 (first | rw [hji4] at H | simp only [hji4] at H)
 have hji4_ : (IntKind.i64.wrap (1 * 2 ^ min (ji2).toNat 64)) = ji4 := hji4
 have hji4z : (ji2) ≤ 64 → (IntKind.i64.wrap (1 * 2 ^ (ji2).toNat)) = ji4 := shl_small hji4
 have hji4u : (IntKind.i64.wrap (2 ^ min (ji2).toNat 64)) = ji4 := by have h_ := hji4_; rw [Int.one_mul] at h_; exact h_
 have hji4v : (ji2) ≤ 64 → (IntKind.i64.wrap (2 ^ (ji2).toNat)) = ji4 := fun hle_ => by have h_ := hji4z hle_; rw [Int.one_mul] at h_; exact h_
 have hji4y : (wrap64 (1 * 2 ^ min (ji2).toNat 64)) = ji4 := (i64_w _).symm.trans hji4_
 have hji4x : (ji2) ≤ 64 → (wrap64 (1 * 2 ^ (ji2).toNat)) = ji4 := fun h_ => (i64_w _).symm.trans (hji4z h_)
 simp only [Option.some.injEq, Prod.mk.injEq] at H
 obtain ⟨rfl, rfl⟩ := H
 go_enter Tryd.func131, Tryd.ntmps131
 go_wp2_with (first | (refine xg 1 rfl ?_; refine xV 1 #[.int .i64 a0_0, .bool a0_1] 77 ?_; intro gb304 hg w5 hbox hb; have BK304 := xA (hbox); have GW304 := xgw hg (below_size (xB HB.out)); have GE304 := GW304; replace HB := xA (below_step (xB HB.out) hb); clear hb hbox hg; obtain ⟨hcz6_0, hcz6_1, hfz6_0, hfz6_1⟩ := xZ2 BK304.out))
 go_ret2
 exact ⟨by first | rfl | (simp [errW_none, errW_some] <;> rfl) | (simp only [← hji2, ← hji4]; first | rfl | (simp [errW_none, errW_some] <;> rfl)) | (simp [*, errW_none, errW_some] <;> rfl), xB1 GE304.out HB.out⟩
/-! ### impl_Word_fit: function 124 -/
def impl_Word_fit.f (a0_0 : Int) (a0_1 : Bool) (a1 : Int) : Option (Int) := (impl_Word_ends.f a0_0 a0_1).bind fun bt306 => (if a0_1 = true then ((impl_mod.f (wrap64 (a1 - bt306.1)) (wrap64 ((wrap64 (bt306.2 - bt306.1)) + 1))).bind fun t308 => (some (wrap64 (t308 + bt306.1)))) else (some (mn (mx a1 bt306.1) bt306.2)))
set_option maxHeartbeats 200000000 in
set_option maxRecDepth 100000 in
theorem impl_Word_fit.calls (a0_0 : Int) (a0_1 : Bool) (a1 : Int) (r : Int) (w : World) (h : impl_Word_fit.f a0_0 a0_1 a1 = some r) :
  Calls Tryd.prog 124 #[.agg #[.int .i64 a0_0, .bool a0_1], .int .i64 a1] w fun e w' => e = .returned (.int .i64 r) ∧ Below w.heap.size w w' := by
 have hu77 := Tryd.underlying77
 have HB := xA (Below.refl w.heap.size w)
 have H : ((impl_Word_ends.f a0_0 a0_1).bind fun bt306 => (if a0_1 = true then ((impl_mod.f (wrap64 (a1 - bt306.1)) (wrap64 ((wrap64 (bt306.2 - bt306.1)) + 1))).bind fun t308 => (some (wrap64 (t308 + bt306.1)))) else (some (mn (mx a1 bt306.1) bt306.2)))) = some r := h
 clear h
 replace H := Option.bind_eq_some_iff.mp H
 obtain ⟨⟨t306, t307⟩, A30, H⟩ := H
 (try dsimp only at H)
 have A3 := xA A30
 clear A30
 by_cases c4 : a0_1 = true
 ·subst c4
  rw [if_pos rfl] at H
  obtain ⟨t308, A5, H⟩ := xO H
  (try dsimp only at H)
  obtain rfl := Option.some.inj H
  go_enter Tryd.func124, Tryd.ntmps124
  go_wp2_with (first | (refine xq rfl ?_; first | (refine xG (some 9) Tryd.func131 #[.agg #[.int .i64 a0_0, .bool true]] ?_; (with_reducible refine (impl_Word_ends.calls a0_0 true t306 t307 _ A3.out).mono ?_); rintro e w8 ⟨rfl, hb⟩; refine ⟨_, rfl, ?_⟩; replace BK305 := xkb BK305 hb; replace HB := xA (below_step (xB1 GE305.out HB.out) hb); (try clear hb); replace hz305 := blk_cell BK305.out; replace hy305 := blk_frozen BK305.out) | (refine xG (some 21) Tryd.func92 #[.int .i64 (wrap64 (a1 - t306)), .int .i64 (wrap64 ((wrap64 (t307 - t306)) + 1))] ?_; (with_reducible refine (impl_mod.calls (wrap64 (a1 - t306)) (wrap64 ((wrap64 (t307 - t306)) + 1)) t308 _ A5.out).mono ?_); rintro e w' ⟨rfl, ⟨nd, rfl⟩⟩; refine ⟨_, rfl, ?_⟩)) | (refine xg 2 rfl ?_; refine xV 2 #[.int .i64 a0_0, .bool true] 77 ?_; intro gb305 hg w6 hbox hb; have BK305 := xA (hbox); have GW305 := xgw hg (below_size (xB HB.out)); have GE305 := GW305; replace HB := xA (below_step (xB HB.out) hb); clear hb hbox hg; replace hz305 := blk_cell BK305.out; replace hy305 := blk_frozen BK305.out))
  go_ret
  exact ⟨xr, xB1 GE305.out HB.out⟩
 replace c4 := Bool.eq_false_iff.mpr c4
 subst c4
 rw [if_neg (show ¬ (false = true) by decide)] at H
 obtain ⟨ji10, hji10⟩ : ∃ j_ : Int, (mx a1 t306) = j_ := ⟨_, rfl⟩
 (first | rw [hji10] at H | simp only [hji10] at H)
 (try rw [hji10] at A3)
 have hji10_ : (if a1 < t306 then t306 else a1) = ji10 := hji10
 obtain ⟨ji11, hji11⟩ : ∃ j_ : Int, (mn (ji10) t307) = j_ := ⟨_, rfl⟩
 (first | rw [hji11] at H | simp only [hji11] at H)
 (try rw [hji11] at A3)
 have hji11_ : (if t307 < (ji10) then t307 else (ji10)) = ji11 := hji11
 obtain rfl := Option.some.inj H
 go_enter Tryd.func124, Tryd.ntmps124
 go_wp2_with (first | (refine xg 2 rfl ?_; refine xV 2 #[.int .i64 a0_0, .bool false] 77 ?_; intro gb305 hg w12 hbox hb; have BK305 := xA (hbox); have GW305 := xgw hg (below_size (xB HB.out)); have GE305 := GW305; replace HB := xA (below_step (xB HB.out) hb); clear hb hbox hg; replace hz305 := blk_cell BK305.out; replace hy305 := blk_frozen BK305.out) | (refine xG (some 9) Tryd.func131 #[.agg #[.int .i64 a0_0, .bool false]] ?_; (with_reducible refine (impl_Word_ends.calls a0_0 false t306 t307 _ A3.out).mono ?_); rintro e w14 ⟨rfl, hb⟩; refine ⟨_, rfl, ?_⟩; replace BK305 := xkb BK305 hb; replace HB := xA (below_step (xB1 GE305.out HB.out) hb); (try clear hb); replace hz305 := blk_cell BK305.out; replace hy305 := blk_frozen BK305.out))
 go_ret
 exact ⟨by first | rfl | (simp [errW_none, errW_some] <;> rfl) | (simp only [← hji10, ← hji11]; first | rfl | (simp [errW_none, errW_some] <;> rfl)) | (simp [*, errW_none, errW_some] <;> rfl), xB1 GE305.out HB.out⟩

/-! ### impl_shifted: function 132 -/
def impl_shifted.j0 : Nat → Int → Int → Int → Bool → Option (Int)
 | 0, _, _, _, _ => none
 | k + 1, x0, x1, x2, x7 => if x7 = true then (if 0 ≤ (wrap64 (x1 - 1)) then (if 0 ≤ x1 then (some (shr .i64 (wrap64 (x0 + (shl .i64 1 (wrap64 (x1 - 1))))) x1)) else (none)) else (none)) else (if x2 = 2 then (if x0 < 0 then (if 0 ≤ x1 then (some (wrap64 (-(shr .i64 (wrap64 (-x0)) x1)))) else (none)) else (if 0 ≤ x1 then (some (shr .i64 x0 x1)) else (none))) else (if 0 ≤ x1 then (some (shr .i64 x0 x1)) else (none)))
def impl_shifted.f (k : Nat) (a0 : Int) (a1 : Int) (a2 : Int) : Option (Int) := if a2 = 1 then (impl_shifted.j0 k a0 a1 a2 (decide (a1 > 0))) else (impl_shifted.j0 k a0 a1 a2 false)
theorem impl_shifted.mono_l : ∀ k, (∀ y0 y1 y2 y3, LeO (impl_shifted.j0 k y0 y1 y2 y3) (impl_shifted.j0 (k + 1) y0 y1 y2 y3))
 | 0 => fun _ _ _ _ r h => by simp [impl_shifted.j0] at h
 | k + 1 => by
  have ih0 := impl_shifted.mono_l k
  intros
  unfold impl_shifted.j0
  exact xM
theorem impl_shifted.mono : ∀ a0 a1 a2 k, LeO (impl_shifted.f k a0 a1 a2) (impl_shifted.f (k + 1) a0 a1 a2) := by
 intro a0 a1 a2 k
 have ih0 := impl_shifted.mono_l k
 unfold impl_shifted.f
 exact xM
set_option maxHeartbeats 200000000 in
set_option maxRecDepth 100000 in
theorem impl_shifted.calls (k : Nat) (a0 : Int) (a1 : Int) (a2 : Int) (r : Int) (w : World) (h : impl_shifted.f k a0 a1 a2 = some r) :
  Calls Tryd.prog 132 #[.int .i64 a0, .int .i64 a1, .int .i64 a2] w fun e w' => e = .returned (.int .i64 r) ∧ Drawn0 w w' := by
 have H : (if a2 = 1 then (impl_shifted.j0 k a0 a1 a2 (decide (a1 > 0))) else (impl_shifted.j0 k a0 a1 a2 false)) = some r := h
 clear h
 have HC4 := xA H
 clear H
 go_enter Tryd.func132, Tryd.ntmps132
 go_upto_region 1 with (fail)
 go_cut [7] from 8 to 8 (fun v7 wc => ∃ (kq : Nat) (x7_3 : Bool), v7 = .bool x7_3 ∧ Aside0 (impl_shifted.j0 kq a0 a1 a2 x7_3 = some r) ∧ Aside0 (kq ≤ k) ∧ Drawn0 w wc)
 case first => as_aux_lemma =>
  have H := HC4.out
  clear HC4
  by_cases c5 : a2 = 1
  rotate_left
  ·rw [if_neg c5] at H
   have c5b0 : (a2 == 1) = false := beq_eq_false_iff_ne.mpr c5
   have c5b1 : (a2 != 1) = true := bne_iff_ne.mpr c5
   (first | rw [c5b0] | (simp only [i64_w, i32_w]; rw [c5b0]) | skip)
   have H' := xA H
   clear H
   go_wp2
   go_meet
   case rel => exact ⟨_, (false), xs, H', ⟨by first | omega | exact Nat.le_refl _⟩, by repeat (first | exact Drawn0.refl _ | apply Drawn0.step)⟩
  rw [if_pos c5] at H
  have c5b0 : (a2 == 1) = true := beq_iff_eq.mpr c5
  have c5b1 : (a2 != 1) = false := bne_eq_false_iff_eq.mpr c5
  clear c5
  (first | rw [c5b0] | (simp only [i64_w, i32_w]; rw [c5b0]) | skip)
  have H' := xA H
  clear H
  go_wp2
  go_meet
  case rel => exact ⟨_, (decide (a1 > 0)), xs, H', ⟨by first | omega | exact Nat.le_refl _⟩, by repeat (first | exact Drawn0.refl _ | apply Drawn0.step)⟩
 case rest => as_aux_lemma =>
  clear HC4
  obtain ⟨kq, x7_3, rfl, HA, HJ3, ⟨mc3, rfl⟩⟩ := hcut
  cases kq with
  | zero => exact absurd HA.out (by simp [impl_shifted.j0])
  | succ kj3 =>
   have H := HA.out
   clear HA
   simp only [impl_shifted.j0] at H
   by_cases c6 : x7_3 = true
   ·subst c6
    rw [if_pos rfl] at H
    obtain ⟨ji7, hji7⟩ : ∃ j_ : Int, (wrap64 (a1 - 1)) = j_ := ⟨_, rfl⟩
    (first | rw [hji7] at H | simp only [hji7] at H)
    have hji7w : (IntKind.i64.wrap (a1 - 1)) = ji7 := (i64_w _).trans hji7
    by_cases c8 : 0 ≤ (ji7)
    rotate_left
    ·rw [if_neg c8] at H
     exact absurd H (by simp)
    rw [if_pos c8] at H
    have c8b0 := eq_true c8
    have c8b1 : decide (0 ≤ (ji7)) = true := decide_eq_true c8
    clear c8
    obtain ⟨ji9, hji9⟩ : ∃ j_ : Int, (shl .i64 1 (ji7)) = j_ := ⟨_, rfl⟩
    (first | rw [hji9] at H | simp only [hji9] at H)
    have hji9_ : (IntKind.i64.wrap (1 * 2 ^ min (ji7).toNat 64)) = ji9 := hji9
    have hji9z : (ji7) ≤ 64 → (IntKind.i64.wrap (1 * 2 ^ (ji7).toNat)) = ji9 := shl_small hji9
    have hji9u : (IntKind.i64.wrap (2 ^ min (ji7).toNat 64)) = ji9 := by have h_ := hji9_; rw [Int.one_mul] at h_; exact h_
    have hji9v : (ji7) ≤ 64 → (IntKind.i64.wrap (2 ^ (ji7).toNat)) = ji9 := fun hle_ => by have h_ := hji9z hle_; rw [Int.one_mul] at h_; exact h_
    have hji9y : (wrap64 (1 * 2 ^ min (ji7).toNat 64)) = ji9 := (i64_w _).symm.trans hji9_
    have hji9x : (ji7) ≤ 64 → (wrap64 (1 * 2 ^ (ji7).toNat)) = ji9 := fun h_ => (i64_w _).symm.trans (hji9z h_)
    by_cases c10 : 0 ≤ a1
    rotate_left
    ·rw [if_neg c10] at H
     exact absurd H (by simp)
    rw [if_pos c10] at H
    have c10b0 := eq_true c10
    have c10b1 : decide (0 ≤ a1) = true := decide_eq_true c10
    clear c10
    obtain ⟨ji11, hji11⟩ : ∃ j_ : Int, (shr .i64 (wrap64 (a0 + (ji9))) a1) = j_ := ⟨_, rfl⟩
    (first | rw [hji11] at H | simp only [hji11] at H)
    have hji11_ : ((wrap64 (a0 + (ji9))) / 2 ^ min a1.toNat 64) = ji11 := hji11
    have hji11z : a1 ≤ 64 → ((wrap64 (a0 + (ji9))) / 2 ^ a1.toNat) = ji11 := shr_small hji11
    obtain rfl := Option.some.inj H
    go_wp2
    go_ret
    exact ⟨by first | rfl | (simp; done) | (simp only [← hji7, ← hji9, ← hji11] <;> (first | rfl | simp)) | (simp [*]; done), by repeat (first | exact Drawn0.refl _ | apply Drawn0.step)⟩
   replace c6 := Bool.eq_false_iff.mpr c6
   subst c6
   rw [if_neg (show ¬ (false = true) by decide)] at H
   by_cases c12 : a2 = 2
   rotate_left
   ·rw [if_neg c12] at H
    have c12b0 : (a2 == 2) = false := beq_eq_false_iff_ne.mpr c12
    have c12b1 : (a2 != 2) = true := bne_iff_ne.mpr c12
    by_cases c18 : 0 ≤ a1
    rotate_left
    ·rw [if_neg c18] at H
     exact absurd H (by simp)

    rw [if_pos c18] at H
    have c18b0 := eq_true c18
    have c18b1 : decide (0 ≤ a1) = true := decide_eq_true c18
    clear c18
    obtain ⟨ji19, hji19⟩ : ∃ j_ : Int, (shr .i64 a0 a1) = j_ := ⟨_, rfl⟩
    (first | rw [hji19] at H | simp only [hji19] at H)
    have hji19_ : (a0 / 2 ^ min a1.toNat 64) = ji19 := hji19
    have hji19z : a1 ≤ 64 → (a0 / 2 ^ a1.toNat) = ji19 := shr_small hji19
    obtain rfl := Option.some.inj H
    go_wp2
    go_ret
    exact ⟨by first | rfl | (simp; done) | (simp only [← hji19] <;> (first | rfl | simp)) | (simp [*]; done), by repeat (first | exact Drawn0.refl _ | apply Drawn0.step)⟩
   rw [if_pos c12] at H
   have c12b0 : (a2 == 2) = true := beq_iff_eq.mpr c12
   have c12b1 : (a2 != 2) = false := bne_eq_false_iff_eq.mpr c12
   clear c12
   by_cases c13 : a0 < 0
   rotate_left
   ·rw [if_neg c13] at H
    have c13b0 : decide (a0 < 0) = false := decide_eq_false c13
    clear c13
    by_cases c16 : 0 ≤ a1
    rotate_left
    ·rw [if_neg c16] at H
     exact absurd H (by simp)
    rw [if_pos c16] at H
    have c16b0 := eq_true c16
    have c16b1 : decide (0 ≤ a1) = true := decide_eq_true c16
    clear c16
    obtain ⟨ji17, hji17⟩ : ∃ j_ : Int, (shr .i64 a0 a1) = j_ := ⟨_, rfl⟩
    (first | rw [hji17] at H | simp only [hji17] at H)
    have hji17_ : (a0 / 2 ^ min a1.toNat 64) = ji17 := hji17
    have hji17z : a1 ≤ 64 → (a0 / 2 ^ a1.toNat) = ji17 := shr_small hji17
    obtain rfl := Option.some.inj H
    go_wp2
    go_ret
    exact ⟨by first | rfl | (simp; done) | (simp only [← hji17] <;> (first | rfl | simp)) | (simp [*]; done), by repeat (first | exact Drawn0.refl _ | apply Drawn0.step)⟩
   rw [if_pos c13] at H
   have c13b0 : decide (a0 < 0) = true := decide_eq_true c13
   clear c13
   by_cases c14 : 0 ≤ a1
   rotate_left
   ·rw [if_neg c14] at H
    exact absurd H (by simp)
   rw [if_pos c14] at H
   have c14b0 := eq_true c14
   have c14b1 : decide (0 ≤ a1) = true := decide_eq_true c14
   clear c14
   obtain ⟨ji15, hji15⟩ : ∃ j_ : Int, (shr .i64 (wrap64 (-a0)) a1) = j_ := ⟨_, rfl⟩
   (first | rw [hji15] at H | simp only [hji15] at H)
   have hji15_ : ((wrap64 (-a0)) / 2 ^ min a1.toNat 64) = ji15 := hji15
   have hji15z : a1 ≤ 64 → ((wrap64 (-a0)) / 2 ^ a1.toNat) = ji15 := shr_small hji15
   obtain rfl := Option.some.inj H
   go_wp2
   go_ret
   exact ⟨by first | rfl | (simp; done) | (simp only [← hji15] <;> (first | rfl | simp)) | (simp [*]; done), by repeat (first | exact Drawn0.refl _ | apply Drawn0.step)⟩
/-! ### impl_First_raw: function 125 -/
def impl_First_raw.f (k : Nat) (a0_0 : Int) (a0_1 : Int) (a0_2 : Int) (a0_3 : Int) (a0_4 : Bool) (a1 : Int) (a2 : Int) : Option (Int) := (impl_shifted.f k (wrap64 (a0_0 * a1)) a0_1 a0_2).bind fun t310 => (some (wrap64 (t310 + a2)))
theorem impl_First_raw.mono : ∀ a0 a1 a2 a3 a4 a5 a6 k, LeO (impl_First_raw.f k a0 a1 a2 a3 a4 a5 a6) (impl_First_raw.f (k + 1) a0 a1 a2 a3 a4 a5 a6) := by
 intro a0 a1 a2 a3 a4 a5 a6 k
 have m0 := @impl_shifted.mono
 unfold impl_First_raw.f
 exact xM
set_option maxHeartbeats 200000000 in
set_option maxRecDepth 100000 in
theorem impl_First_raw.calls (k : Nat) (a0_0 : Int) (a0_1 : Int) (a0_2 : Int) (a0_3 : Int) (a0_4 : Bool) (a1 : Int) (a2 : Int) (r : Int) (w : World) (h : impl_First_raw.f k a0_0 a0_1 a0_2 a0_3 a0_4 a1 a2 = some r) :
  Calls Tryd.prog 125 #[.agg #[.int .i64 a0_0, .int .i64 a0_1, .int .i64 a0_2, .int .i64 a0_3, .bool a0_4], .int .i64 a1, .int .i64 a2] w fun e w' => e = .returned (.int .i64 r) ∧ Below w.heap.size w w' := by
 have hu79 := Tryd.underlying79
 have HB := xA (Below.refl w.heap.size w)
 have H : ((impl_shifted.f k (wrap64 (a0_0 * a1)) a0_1 a0_2).bind fun t310 => (some (wrap64 (t310 + a2)))) = some r := h
 clear h
 obtain ⟨t310, A4, H⟩ := xO H
 (try dsimp only at H)
 obtain rfl := Option.some.inj H
 go_enter Tryd.func125, Tryd.ntmps125
 go_wp2_with (first | (refine xg 3 rfl ?_; refine xV 3 #[.int .i64 a0_0, .int .i64 a0_1, .int .i64 a0_2, .int .i64 a0_3, .bool a0_4] 79 ?_; intro gb309 hg w5 hbox hb; have BK309 := xA (hbox); have GW309 := xgw hg (below_size (xB HB.out)); have GE309 := GW309; replace HB := xA (below_step (xB HB.out) hb); clear hb hbox hg; obtain ⟨hcz6_0, hcz6_1, hcz6_2, hcz6_3, hcz6_4, hfz6_0, hfz6_1, hfz6_2, hfz6_3, hfz6_4⟩ := xZ5 BK309.out) | (refine xG (some 15) Tryd.func132 #[.int .i64 (wrap64 (a0_0 * a1)), .int .i64 a0_1, .int .i64 a0_2] ?_; (with_reducible refine (impl_shifted.calls k (wrap64 (a0_0 * a1)) a0_1 a0_2 t310 _ A4.out).mono ?_); rintro e w' ⟨rfl, ⟨nd, rfl⟩⟩; refine ⟨_, rfl, ?_⟩))
 go_ret
 exact ⟨xr, xB1 GE309.out HB.out⟩

/-! ### impl_First_step: function 112 -/
def impl_First_step.f (k : Nat) (a0_0 : Int) (a0_1 : Int) (a0_2 : Int) (a0_3 : Int) (a0_4 : Bool) (a1 : Int) (a2 : Int) : Option (Int) := (impl_First_raw.f k a0_0 a0_1 a0_2 a0_3 a0_4 a1 a2).bind fun t312 => ((impl_Word_fit.f a0_3 a0_4 t312).bind fun t313 => (some t313))
theorem impl_First_step.mono : ∀ a0 a1 a2 a3 a4 a5 a6 k, LeO (impl_First_step.f k a0 a1 a2 a3 a4 a5 a6) (impl_First_step.f (k + 1) a0 a1 a2 a3 a4 a5 a6) := by
 intro a0 a1 a2 a3 a4 a5 a6 k
 have m0 := @impl_First_raw.mono
 unfold impl_First_step.f
 exact xM
def impl_First_step.T1 : Bool × List (List Nat × List Nat) := (true, [([], []), ([0], [0]), ([], []), ([], []), ([], []), ([2, 3, 4], [2, 3, 4]), ([1, 5, 5], [1, 5]), ([6, 6, 0, 1, 2, 3, 4, 5, 6], [6])])
def impl_First_step.B1 : List Nat := [0, 1, 0, 0, 0, 28, 63, 127]
theorem impl_First_step.tab1 : rtab .any (opsOf Tryd.f112 1) = impl_First_step.T1 := by kernel_rfl
theorem impl_First_step.bits1 : waitsOk impl_First_step.T1.2 impl_First_step.B1 = true := by kernel_rfl
set_option maxHeartbeats 200000000 in
set_option maxRecDepth 100000 in
theorem impl_First_step.calls (k : Nat) (a0_0 : Int) (a0_1 : Int) (a0_2 : Int) (a0_3 : Int) (a0_4 : Bool) (a1 : Int) (a2 : Int) (r : Int) (w : World) (h : impl_First_step.f k a0_0 a0_1 a0_2 a0_3 a0_4 a1 a2 = some r) :
  Calls Tryd.prog 112 #[.agg #[.int .i64 a0_0, .int .i64 a0_1, .int .i64 a0_2, .int .i64 a0_3, .bool a0_4], .int .i64 a1, .int .i64 a2] w fun e w' => e = .returned (.int .i64 r) ∧ Below w.heap.size w w' := by
 have hu79 := Tryd.underlying79
 have hu77 := Tryd.underlying77
 have HB := xA (Below.refl w.heap.size w)
 have H : ((impl_First_raw.f k a0_0 a0_1 a0_2 a0_3 a0_4 a1 a2).bind fun t312 => ((impl_Word_fit.f a0_3 a0_4 t312).bind fun t313 => (some t313))) = some r := h
 clear h
 obtain ⟨t312, A4, H⟩ := xO H
 (try dsimp only at H)
 obtain ⟨t313, A5, H⟩ := xO H
 (try dsimp only at H)
 obtain rfl := Option.some.inj H
 go_enter Tryd.func112, Tryd.ntmps112
 try go_wp2_with (first | (refine xg 3 rfl ?_; refine xV 3 #[.int .i64 a0_0, .int .i64 a0_1, .int .i64 a0_2, .int .i64 a0_3, .bool a0_4] 79 ?_; intro gb311 hg w6 hbox hb; have BK311 := xA (hbox); have GW311 := xgw hg (below_size (xB HB.out)); have GE311 := GW311; replace HB := xA (below_step (xB HB.out) hb); clear hb hbox hg))
 replace BK311 := xA (blk_drew BK311.out)
 replace HB := xA (below_drew1 HB.out)
 refine start_ (n := 8) (S := fun w' => w'.cell? ⟨gb311, 0, none⟩ = some (.int .i64 a0_0) ∧ w'.cell? ⟨gb311, 1, none⟩ = some (.int .i64 a0_1) ∧ w'.cell? ⟨gb311, 2, none⟩ = some (.int .i64 a0_2) ∧ w'.cell? ⟨gb311, 3, none⟩ = some (.int .i64 a0_3) ∧ w'.cell? ⟨gb311, 4, none⟩ = some (.bool a0_4)) (ds := []) x7a0 (by kernel_rfl) rfl rfl ⟨(blk_cell BK311.out 0).trans rfl, (blk_cell BK311.out 1).trans rfl, (blk_cell BK311.out 2).trans rfl, (blk_cell BK311.out 3).trans rfl, (blk_cell BK311.out 4).trans rfl⟩ (fun hHeld => ?_); refine with_tabW impl_First_step.tab1 impl_First_step.bits1 (fun HT_ HW_ => ?_)
 generalize w6.drew = w7 at BK311 HB hHeld ⊢
 refine xP 0 7 x7a1 ?_
 refine xP 3 10 x7a2 ?_
 refine xP 4 11 x7a3 ?_
 refine xT5 hHeld 1 8 x7a4 ?_
 refine xT5 hHeld 2 9 x7a5 ?_
 refine xU 5 12 x7a6 (fun K hK => ?_)
 refine xY Tryd.func125 #[.agg #[.int .i64 a0_0, .int .i64 a0_1, .int .i64 a0_2, .int .i64 a0_3, .bool a0_4], .int .i64 a1, .int .i64 a2] ?_
 with_reducible refine (impl_First_raw.calls k a0_0 a0_1 a0_2 a0_3 a0_4 a1 a2 t312 _ A4.out).mono ?_
 rintro e w8 ⟨rfl, hb⟩
 refine ⟨_, rfl, ?_⟩
 replace BK311 := xkb BK311 hb
 replace HB := xA (below_step (xB1 GE311.out HB.out) hb)
 (try clear hb); (try clear hb2); (try clear hk); (try clear hi)
 refine hK.out _ _ ⟨(blk_cell BK311.out 0).trans rfl, (blk_cell BK311.out 1).trans rfl, (blk_cell BK311.out 2).trans rfl, (blk_cell BK311.out 3).trans rfl, (blk_cell BK311.out 4).trans rfl⟩ (fun hHeld => ?_)
 clear hK K
 refine xN ?_
 refine xU 6 13 x7a7 (fun K hK => ?_)
 refine xY Tryd.func124 #[.agg #[.int .i64 a0_3, .bool a0_4], .int .i64 t312] ?_
 with_reducible refine (impl_Word_fit.calls a0_3 a0_4 t312 t313 _ A5.out).mono ?_
 rintro e w9 ⟨rfl, hb⟩
 refine ⟨_, rfl, ?_⟩
 replace BK311 := xkb BK311 hb
 replace HB := xA (below_step (xB1 GE311.out HB.out) hb)
 (try clear hb); (try clear hb2); (try clear hk); (try clear hi)
 refine hK.out _ _ ⟨(blk_cell BK311.out 0).trans rfl, (blk_cell BK311.out 1).trans rfl, (blk_cell BK311.out 2).trans rfl, (blk_cell BK311.out 3).trans rfl, (blk_cell BK311.out 4).trans rfl⟩ (fun hHeld => ?_)
 clear hK K
 refine xN ?_
 refine xP 7 6 x7a8 ?_
 refine xDn ?_
 try go_wp2
 go_ret
 exact ⟨xr, xB1 GE311.out HB.out⟩

/-! ### impl_First_run: function 104 -/
def impl_First_run.l0 : Nat → Int → List Int → List Int → Int → Int → Int → Int → Int → Int → Bool → Option (List Int)
 | 0, _, _, _, _, _, _, _, _, _, _ => none
 | k + 1, x1, x7, x11, x12, x13, x315000, x315001, x315002, x315003, x315004 => if x13 < x12 then (if 0 ≤ x13 then (if x13 < (x11.length : Int) then ((impl_First_step.f k x315000 x315001 x315002 x315003 x315004 x1 (rd x11 x13)).bind fun t319 => (if x7.length < 17592186044416 then (impl_First_run.l0 k t319 (x7 ++ [t319]) x11 x12 (wrap64 (x13 + 1)) x315000 x315001 x315002 x315003 x315004) else (none))) else (none)) else (none)) else (some x7)
def impl_First_run.f (k : Nat) (a0_0 : Int) (a0_1 : Int) (a0_2 : Int) (a0_3 : Int) (a0_4 : Bool) (a1 : Int) (l2 : List Int) : Option (List Int) := impl_First_run.l0 k a1 (([] : List Int)) l2 (l2.length : Int) 0 a0_0 a0_1 a0_2 a0_3 a0_4
theorem impl_First_run.mono_l : ∀ k, (∀ y0 y1 y2 y3 y4 y5 y6 y7 y8 y9, LeO (impl_First_run.l0 k y0 y1 y2 y3 y4 y5 y6 y7 y8 y9) (impl_First_run.l0 (k + 1) y0 y1 y2 y3 y4 y5 y6 y7 y8 y9))
 | 0 => fun _ _ _ _ _ _ _ _ _ _ r h => by simp [impl_First_run.l0] at h
 | k + 1 => by
  have ih0 := impl_First_run.mono_l k
  have m0 := @impl_First_step.mono
  intros
  unfold impl_First_run.l0
  exact xM
theorem impl_First_run.mono : ∀ a0 a1 a2 a3 a4 a5 a6 k, LeO (impl_First_run.f k a0 a1 a2 a3 a4 a5 a6) (impl_First_run.f (k + 1) a0 a1 a2 a3 a4 a5 a6) := by
 intro a0 a1 a2 a3 a4 a5 a6 k
 have ih0 := impl_First_run.mono_l k
 have m0 := @impl_First_step.mono
 unfold impl_First_run.f
 exact xM
set_option maxHeartbeats 200000000 in
set_option maxRecDepth 100000 in
theorem impl_First_run.calls (k : Nat) (a0_0 : Int) (a0_1 : Int) (a0_2 : Int) (a0_3 : Int) (a0_4 : Bool) (a1 : Int) (A2 : Option Addr) (c2 : Nat) (l2 : List Int) (r : List Int) (w : World) (hr2 : Kd.C (Kd.int .i64) w A2 l2.length l2) (hc2 : l2.length ≤ c2) (h : impl_First_run.f k a0_0 a0_1 a0_2 a0_3 a0_4 a1 l2 = some r) :
  Calls Tryd.prog 104 #[.agg #[.int .i64 a0_0, .int .i64 a0_1, .int .i64 a0_2, .int .i64 a0_3, .bool a0_4], .int .i64 a1, .slice A2 l2.length c2] w fun e w' => ∃ v0_ : Value, e = .returned (v0_) ∧ Kd.R (Kd.int .i64) 3 w' w.heap.size (fun _ => True) v0_ r ∧ Below w.heap.size w w' := by
 have hu79 := Tryd.underlying79
 have HR2 := xA hr2
 have HC2 := xA hc2
 clear hr2 hc2
 have HB := xA (Below.refl w.heap.size w)
 have H : (impl_First_run.l0 k a1 (([] : List Int)) l2 (l2.length : Int) 0 a0_0 a0_1 a0_2 a0_3 a0_4) = some r := h
 clear h
 obtain ⟨y315, hy315⟩ : ∃ y_ : List Int, y_ = (([] : List Int)) := ⟨_, rfl⟩
 replace H : (impl_First_run.l0 k a1 y315 l2 (l2.length : Int) 0 a0_0 a0_1 a0_2 a0_3 a0_4) = some r := by first | (rw [hy315]; with_reducible exact H) | (have H2_ := (Option.bind_some _ _).symm.trans H; rw [hy315]; with_reducible exact H2_) | (have H2_ := (Option.bind_some _ _).symm.trans H; with_reducible exact H2_) | with_reducible exact H | (rw [hy315]; exact H) | exact H
 have Ny315 := xA hy315
 clear hy315
 have H' := xA H
 clear H
 go_enter Tryd.func104, Tryd.ntmps104
 go_wp2_with (first | (refine xg 3 rfl ?_; refine xV 3 #[.int .i64 a0_0, .int .i64 a0_1, .int .i64 a0_2, .int .i64 a0_3, .bool a0_4] 79 ?_; intro gb314 hg w4 hbox hb; have BK314 := xA (hbox); have GW314 := xgw hg (below_size (xB HB.out)); have GE314 := GW314; replace HB := xA (below_step (xB HB.out) hb); clear hb hbox hg) | ((with_reducible refine gate_dst (N := 10) rfl ?_); refine Kd.R_lit (Kd.int .i64) _ 3 ?hg (N := 10) ?hd (xs := ([] : List Int)) (inner := []) (ok := fun _ => True) (okp := fun _ => True) ?hr ?hp (fun _ hk => hk) trivial (Below.refl _ _) (Nat.le_refl _) (by simp) ?_; (case hd => rfl); (case hg => rfl); (case hr => first | (go_simp; done) | (go_simp; rfl)); (case hp => exact (Reps.none _ _)); intro v316 w5 ho6 hb hg_ hnew_; clear hg_ hnew_; (first | rw [← Ny315.out] at ho6 | (simp only [Int.reduceToNat] at ho6; rw [← Ny315.out] at ho6)); have HO317 := xA (Kd.R_lower ho6 (below_size (xB1 GE314.out HB.out))); replace BK314 := xkb BK314 hb; replace HB := xA (below_step (xB1 GE314.out HB.out) hb); clear hb ho6))
 go_loopg [1, 7, 13] k (fun kq v1 v7 v13 w' => ∃ (x1_1 : Int) (x7_1 : List Int) (x13_1 : Int), v1 = .int .i64 x1_1 ∧ v13 = .int .i64 x13_1 ∧ Aside0 (impl_First_run.l0 kq x1_1 x7_1 l2 (l2.length : Int) x13_1 a0_0 a0_1 a0_2 a0_3 a0_4 = some r) ∧ Aside0 (kq ≤ k) ∧ Aside0 (Kd.R (Kd.int .i64) 3 w' w.heap.size (fun _ => True) v7 x7_1) ∧ Aside0 (w'.heap[gb314]? = some (.cells #[.int .i64 a0_0, .int .i64 a0_1, .int .i64 a0_2, .int .i64 a0_3, .bool a0_4] 79 (0, 0))) ∧ Aside0 (Below w.heap.size w w'))
 case atStart => exact ⟨(a1), (y315), (0), xs, xs, H', ⟨Nat.le_refl _⟩, ⟨xR HO317.out⟩, ⟨xK BK314.out⟩, ⟨xB1 GE314.out HB.out⟩⟩
 case round =>
  clear H'
  try clear c2
  obtain ⟨x1_1, x7_1, x13_1, rfl, rfl, HA, HK1, HO_7, BK314, HB⟩ := hrel
  cases gk with
  | zero => exact absurd HA.out (by simp [impl_First_run.l0])
  | succ k1 =>
   have H := HA.out
   clear HA
   simp only [impl_First_run.l0] at H
   by_cases c7 : x13_1 < (l2.length : Int)
   rotate_left
   ·rw [if_neg c7] at H
    have c7b0 : decide (x13_1 < (l2.length : Int)) = false := decide_eq_false c7
    clear c7
    obtain rfl := Option.some.inj H
    go_wp2
    go_ret
    exact ⟨_, xr, xR HO_7.out, xB1 GE314.out HB.out⟩

   rw [if_pos c7] at H
   have c7b0 : decide (x13_1 < (l2.length : Int)) = true := decide_eq_true c7
   clear c7
   by_cases c8 : 0 ≤ x13_1
   rotate_left
   ·rw [if_neg c8] at H
    exact absurd H (by simp)
   rw [if_pos c8] at H
   have c8b0 : decide (0 ≤ x13_1) = true := decide_eq_true c8
   clear c8
   by_cases c9 : x13_1 < (l2.length : Int)
   rotate_left
   ·rw [if_neg c9] at H
    exact absurd H (by simp)
   rw [if_pos c9] at H
   have c9b0 : decide (x13_1 < (l2.length : Int)) = true := decide_eq_true c9
   clear c9
   obtain ⟨t319, A10, H⟩ := xO H
   (try dsimp only at H)
   by_cases c11 : x7_1.length < 17592186044416
   rotate_left
   ·rw [if_neg c11] at H
    exact absurd H (by simp)
   rw [if_pos c11] at H
   have LMc11 := xA c11
   clear c11
   obtain ⟨y320, hy320⟩ : ∃ y_ : List Int, y_ = (x7_1 ++ [t319]) := ⟨_, rfl⟩
   replace H : (impl_First_run.l0 k1 t319 y320 l2 (l2.length : Int) (wrap64 (x13_1 + 1)) a0_0 a0_1 a0_2 a0_3 a0_4) = some r := by first | (rw [hy320]; with_reducible exact H) | (have H2_ := (Option.bind_some _ _).symm.trans H; rw [hy320]; with_reducible exact H2_) | (have H2_ := (Option.bind_some _ _).symm.trans H; with_reducible exact H2_) | with_reducible exact H | (rw [hy320]; exact H) | exact H
   have Ny320 := xA hy320
   clear hy320
   have H' := xA H
   clear H
   have p318 : 0 ≤ (x13_1 : Int) := of_decide_eq_true (by first | (with_reducible assumption) | assumption)
   have q318 : x13_1 < (l2.length : Int) := of_decide_eq_true (by first | (with_reducible assumption) | assumption)
   obtain ⟨ad318, e318, hx318_0⟩ := Kd.at_int HR2.out x13_1 p318 q318
   cases e318
   replace hx318_0 := (HB.out.cell (World.block_lt_of_cell? w _ hx318_0)).trans hx318_0
   replace p318 := eq_true p318
   replace q318 := eq_true q318
   replace hz314 := blk_cell BK314.out; replace hy314 := blk_frozen BK314.out
   go_wp2_with (first | (refine xG (some 20) Tryd.func112 #[.agg #[.int .i64 a0_0, .int .i64 a0_1, .int .i64 a0_2, .int .i64 a0_3, .bool a0_4], .int .i64 x1_1, .int .i64 (rd l2 x13_1)] ?_; (with_reducible refine (impl_First_step.calls k1 a0_0 a0_1 a0_2 a0_3 a0_4 x1_1 (rd l2 x13_1) t319 _ A10.out).mono ?_); rintro e w13 ⟨rfl, hb⟩; refine ⟨_, rfl, ?_⟩; replace HO_7 := xA (Kd.R_below (xR HO_7.out) hb); replace BK314 := xkb BK314 hb; replace HB := xA (below_step (xB1 GE314.out HB.out) hb); (try clear hb)) | ((with_reducible refine gate_builtin (b := .append) (xs := #[.tmp 21, .tmp 23]) rfl ?_); at_builtin; refine Kd.R_append (Kd.int .i64) (w0 := w) w.heap.size rfl (.tmp 21) (.tmp 23) 24 3 (.int .i64 0) 8 rfl Tryd.underlying24 info3 rfl (by decide) (by omega) u7 x7_1 t319 [.int .i64 t319] (fun _ => True) (fun _ => False) rfl rfl ?aP (fun _ hk => hk.elim) ?aF ?aO ?aB ?aS ?aL ?_; (case aP => exact rfl); (case aB => exact (xB1 GE314.out HB.out)); (case aF => exact (fun _ _ => trivial)); (case aO => exact (xR HO_7.out)); (case aS => exact (below_size (xB1 GE314.out HB.out))); (case aL => have := LMc11.out; omega); intro v321 w14 ho hb hg hat; rw [← Ny320.out] at ho; replace BK314 := xA (blk_grown (xK BK314.out) hg (Kd.R_ne HO_7.out BK314.out (by decide))); replace HB := xA (hb); have HO322 := xA (ho); clear HO_7; clear ho hb hg hat))
   go_roundg k1
   case measure => have := HK1.out; omega
   case rel => exact ⟨(t319), (y320), (wrap64 (x13_1 + 1)), xs, xs, H', ⟨by have := HK1.out; omega⟩, ⟨xR HO322.out⟩, ⟨xK BK314.out⟩, ⟨xB1 GE314.out HB.out⟩⟩
end Go.Proofs.YtjplcongellcmaaDoor.PFnExactCountOutputs
