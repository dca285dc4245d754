/- What each Go function that the statement FnStepsAdapt reaches answers, proved call by call. No condition beyond those that the theorems print. (Written by wip/tools/xprint.py of this repo, over the kit's print.) -/
import Derived.Test.YtjplcongellcmaaPFnStepsAdaptx0
import Derived.Test.YtjplcongellcmaaPFnStepsAdaptx2
import Derived.Test.YtjplcongellcmaaPFnStepsAdaptx5
import Derived.Test.YtjplcongellcmaaPFnStepsAdaptx6
namespace Go.Proofs.Ytjplcongellcmaa.PFnStepsAdapt
open Go.RowKit Go.Proofs.YtjplcongellcmaaW.PrintWords Go.Proofs.YtjplcongellcmaaW.PrintLast Go.Proofs.YtjplcongellcmaaW.PrintMore
attribute [local go_sem] max2_int min2_int max_two min_two max_three min_three max_four min_four   -- for this text's walks alone
set_option linter.unusedVariables false
set_option linter.unusedSimpArgs false
def x7a0 : Array Bool := #[false, false, false, false, false, false, false, false, false, false, false, false, false, false, false, false]
def x7a1 : Array Bool := #[true, false, false, false, false, false, false, false, false, false, false, false, false, false, false, false]
def x7a2 : Array Bool := #[true, true, false, false, false, false, false, false, false, false, false, false, false, false, false, false]
def x7a3 : Array Bool := #[true, true, true, false, false, false, false, false, false, false, false, false, false, false, false, false]
def x7a4 : Array Bool := #[true, true, true, true, false, false, false, false, false, false, false, false, false, false, false, false]
def x7a5 : Array Bool := #[true, true, true, true, false, false, false, true, false, false, false, false, false, false, false, false]
def x7a6 : Array Bool := #[true, true, true, true, false, false, false, true, true, false, false, false, false, false, false, false]
def x7a7 : Array Bool := #[true, true, true, true, false, false, false, true, true, true, false, false, false, false, false, false]
def x7a8 : Array Bool := #[true, true, true, true, false, false, false, true, true, true, true, false, false, false, false, false]
def x7a9 : Array Bool := #[true, true, true, true, true, false, false, true, true, true, true, false, false, false, false, false]
def x7a10 : Array Bool := #[true, true, true, true, true, false, false, true, true, true, true, true, false, false, false, false]
def x7a11 : Array Bool := #[true, true, true, true, true, true, true, true, true, true, true, true, true, false, false, false]
def x7a12 : Array Bool := #[true, true, true, true, true, true, false, true, true, true, true, true, false, false, false, false]
def x7a13 : Array Bool := #[true, true, true, true, true, false, false, true, true, true, true, true, true, false, false, false]
def x7a14 : Array Bool := #[true, true, true, true, true, true, true, true, true, true, true, true, false, false, false, false]
def x7a15 : Array Bool := #[true, true, true, true, true, true, false, true, true, true, true, true, true, false, false, false]
def x7a16 : Array Bool := #[true, true, true, true, true, true, true, true, true, true, true, true, true, true, false, false]
def x7a17 : Array Bool := #[true, true, true, true, true, true, true, true, true, true, true, true, true, true, true, false]
def x7a18 : Array Bool := #[true, true, true, true, true, true, true, true, true, true, true, true, true, true, true, true]

/-! ### impl_decoded: function 246 -/
def impl_decoded.l0 : Nat → List Int → List Int → List Int → Int → Int → Int → Int → Int → Bool → Option (List Int × List Int × Int × Int × Int × Bool)
 | 0, _, _, _, _, _, _, _, _, _ => none
 | k + 1, x6, x7, x12, x13, x14, x2000, x2001, x2002, x2003 => if x14 < x13 then (if 0 ≤ x14 then (if x14 < (x12.length : Int) then ((impl_stepper_take.f x2000 x2001 x2002 x2003 (rd x12 x14)).bind fun bt334 => ((some (([bt334.2.1] : List Int) : List Int)).bind fun y338 => (if x6.length + y338.length < 17592186044416 then ((some (([bt334.1] : List Int) : List Int)).bind fun y344 => (if x7.length + y344.length < 17592186044416 then (impl_decoded.l0 k (x6 ++ y338) (x7 ++ y344) x12 x13 (wrap64 (x14 + 1)) bt334.1 bt334.2.1 bt334.2.2.1 bt334.2.2.2) else (none))) else (none)))) else (none)) else (none)) else (some (x6, x7, x2000, x2001, x2002, x2003))
def impl_decoded.f (k : Nat) (l0 : List Int) (s1_0 : Int) (s1_1 : Int) (s1_2 : Int) (s1_3 : Bool) : Option (List Int × List Int × Int × Int × Int × Bool) := impl_decoded.l0 k (([] : List Int)) (([] : List Int)) l0 (l0.length : Int) 0 s1_0 s1_1 s1_2 s1_3
theorem impl_decoded.mono_l : ∀ k, (∀ y0 y1 y2 y3 y4 y5 y6 y7 y8, LeO (impl_decoded.l0 k y0 y1 y2 y3 y4 y5 y6 y7 y8) (impl_decoded.l0 (k + 1) y0 y1 y2 y3 y4 y5 y6 y7 y8))
 | 0 => fun _ _ _ _ _ _ _ _ _ r h => by simp [impl_decoded.l0] at h
 | k + 1 => by
  have ih0 := impl_decoded.mono_l k
  ·intro y0 y1 y2 y3 y4 y5 y6 y7 y8
   unfold impl_decoded.l0
   repeat' first
   | (with_reducible exact ih0 _ _ _ _ _ _ _ _ _)
   | (with_reducible exact LeO.refl _)
   | (with_reducible exact LeO.none _)
   | (with_reducible refine LeO.ite ?_ ?_)
   | (with_reducible refine LeO.bind ?_ (fun _ => ?_))
   | exact ih0 _ _ _ _ _ _ _ _ _
   | exact LeO.none _
   | refine LeO.ite ?_ ?_
   | refine LeO.bind ?_ (fun _ => ?_)
theorem impl_decoded.mono : ∀ a0 a1 a2 a3 a4 k, LeO (impl_decoded.f k a0 a1 a2 a3 a4) (impl_decoded.f (k + 1) a0 a1 a2 a3 a4) := by
 intro a0 a1 a2 a3 a4 k
 have ih0 := impl_decoded.mono_l k
 unfold impl_decoded.f
 repeat' first
   | (with_reducible exact ih0 _ _ _ _ _ _ _ _ _)
   | (with_reducible exact LeO.refl _)
   | (with_reducible exact LeO.none _)
   | (with_reducible refine LeO.ite ?_ ?_)
   | (with_reducible refine LeO.bind ?_ (fun _ => ?_))
   | exact ih0 _ _ _ _ _ _ _ _ _
   | exact LeO.none _
   | refine LeO.ite ?_ ?_
   | refine LeO.bind ?_ (fun _ => ?_)
def impl_decoded.T6 : Bool × List (List Nat × List Nat) := (true, [([], []), ([], []), ([1], [1]), ([2], [2]), ([3], [3]), ([4], [4]), ([0, 5], [0, 5]), ([], []), ([], []), ([8], [8]), ([9], [9]), ([10], [10]), ([11], [11]), ([7, 12, 6], [7, 12]), ([6, 13, 0, 1, 2, 3, 4, 5, 6], [0, 6]), ([13, 14, 0, 1, 2, 3, 4, 5, 6, 7, 8, 9, 10, 11, 12, 13, 14], [7, 13])])
def impl_decoded.B6 : List Nat := [0, 0, 2, 6, 14, 30, 63, 0, 0, 256, 768, 1792, 3840, 8191, 16383, 32767]
theorem impl_decoded.tab6 : rtab .any (opsOf Try.f246 6) = impl_decoded.T6 := by kernel_rfl
theorem impl_decoded.bits6 : waitsOk impl_decoded.T6.2 impl_decoded.B6 = true := by kernel_rfl
set_option maxHeartbeats 8000000 in
set_option maxRecDepth 100000 in
theorem impl_decoded.calls (k : Nat) (A0 : Option Addr) (c0 : Nat) (l0 : List Int) (g : Nat) (s1_0 : Int) (s1_1 : Int) (s1_2 : Int) (s1_3 : Bool) (r1 : List Int) (r2 : List Int) (r3 : Int) (r4 : Int) (r5 : Int) (r6 : Bool) (w0 w : World) (hI : IsS144 w0 w g s1_0 s1_1 s1_2 s1_3) (hB : Below w0.heap.size w0 w) (hr0 : Kd.C (Kd.int .i64) w A0 l0.length l0) (hc0 : l0.length ≤ c0) (hf0 : ∀ ad, A0 = some ad → 0 < l0.length → ad.block ≠ g) (h : impl_decoded.f k l0 s1_0 s1_1 s1_2 s1_3 = some (r1, r2, r3, r4, r5, r6)) :
  Calls Try.prog 246 #[.slice A0 l0.length c0, .pointer (some ⟨g, 0, none⟩)] w fun e w' => ∃ v0_ v1_ : Value, e = .returned (.tuple #[v0_, v1_]) ∧ Kd.R (Kd.int .i64) 3 w' w.heap.size (fun k_ => some k_ ≠ (v1_ : Value).ownBlock) v0_ r1 ∧ Kd.R (Kd.int .i64) 3 w' w.heap.size (fun k_ => some k_ ≠ (v0_ : Value).ownBlock) v1_ r2 ∧ IsS144 w0 w' g r3 r4 r5 r6 ∧ Below w0.heap.size w0 w' ∧ KeepBut w w' g none := by
 have HR0 := Aside0.mk hr0
 have HC0 := Aside0.mk hc0
 clear hr0 hc0
 have HI1 := Aside0.mk hI
 have HK := Aside0.mk (KeepBut.refl w g none)
 have HL := Aside0.mk hB.size
 clear hI
 have HW0 := Aside0.mk hB.size
 have HB := Aside0.mk hB
 clear hB
 have H : (impl_decoded.l0 k (([] : List Int)) (([] : List Int)) l0 (l0.length : Int) 0 s1_0 s1_1 s1_2 s1_3) = some (r1, r2, r3, r4, r5, r6) := h
 clear h
 obtain ⟨y327, hy327⟩ : ∃ y_ : List Int, y_ = (([] : List Int)) := ⟨_, rfl⟩
 replace H : (impl_decoded.l0 k y327 (([] : List Int)) l0 (l0.length : Int) 0 s1_0 s1_1 s1_2 s1_3) = some (r1, r2, r3, r4, r5, r6) := by first | (rw [hy327]; with_reducible exact H) | (have H2_ := (Option.bind_some _ _).symm.trans H; rw [hy327]; with_reducible exact H2_) | (have H2_ := (Option.bind_some _ _).symm.trans H; with_reducible exact H2_) | with_reducible exact H | (rw [hy327]; exact H) | exact H
 have Ny327 := Aside0.mk hy327
 clear hy327
 obtain ⟨y330, hy330⟩ : ∃ y_ : List Int, y_ = (([] : List Int)) := ⟨_, rfl⟩
 replace H : (impl_decoded.l0 k y327 y330 l0 (l0.length : Int) 0 s1_0 s1_1 s1_2 s1_3) = some (r1, r2, r3, r4, r5, r6) := by first | (rw [hy330]; with_reducible exact H) | (have H2_ := (Option.bind_some _ _).symm.trans H; rw [hy330]; with_reducible exact H2_) | (have H2_ := (Option.bind_some _ _).symm.trans H; with_reducible exact H2_) | with_reducible exact H | (rw [hy330]; exact H) | exact H
 have Ny330 := Aside0.mk hy330
 clear hy330
 have H' := Aside0.mk H
 clear H
 go_enter Try.func246, Try.ntmps246
 go_wp2_with (first | ((with_reducible refine gate_dst (N := 10) rfl ?_); refine Kd.R_lit (Kd.int .i64) _ 3 ?hg (N := 10) ?hd (xs := ([] : List Int)) (inner := []) (ok := fun _ => True) (okp := fun _ => True) ?hr ?hp (fun _ hk => hk) trivial (Below.refl _ _) (Nat.le_refl _) (by simp) ?_; (case hd => rfl); (case hg => rfl); (case hr => first | (go_simp; done) | (go_simp; rfl)); (case hp => exact (Reps.none _ _)); intro v328 w3 ho4 hb hg_ hnew_; clear hg_ hnew_; (first | rw [← Ny327.out] at ho4 | (simp only [Int.reduceToNat] at ho4; rw [← Ny327.out] at ho4)); have n0_ := Aside0.mk (Kd.R_lower ho4 (keep_size (w := w) (g := g) (row := none) (by repeat (first | (with_reducible first | exact HK.out | apply KeepBut.set_ | apply keep_drewN | apply keep_drew | apply keep_alloc) | exact HK.out)))); have n1_ := Aside0.mk (IsS144.below (by repeat (first | (with_reducible first | exact HI1.out | apply IsS144.alloc | apply IsS144.drewN | apply IsS144.drew | apply IsS144.set_0 | apply IsS144.set_1 | apply IsS144.set_2 | apply IsS144.set_3) | exact HI1.out)) hb); have n2_ := Aside0.mk (KeepBut.trans (by repeat (first | (with_reducible first | exact HK.out | apply KeepBut.set_ | apply keep_drewN | apply keep_drew | apply keep_alloc) | exact HK.out)) (KeepBut.of_below hb g none) (.inl rfl)); have n3_ := Aside0.mk (below_step (by repeat (first | (with_reducible first | exact HB.out | apply below_alloc | apply pw_below_drewN | apply below_drew1 | refine below_set ?_ (IsS144.ge HI1.out)) | exact HB.out)) hb); clear HI1; clear HK; clear HB; have HO329 := n0_; have HI1 := n1_; have HK := n2_; have HB := n3_; clear n0_ n1_ n2_ n3_; clear hb ho4) | ((with_reducible refine gate_dst (N := 11) rfl ?_); refine Kd.R_lit (Kd.int .i64) _ 3 ?hg (N := 11) ?hd (xs := ([] : List Int)) (inner := []) (ok := fun _ => True) (okp := fun _ => True) ?hr ?hp (fun _ hk => hk) trivial (Below.refl _ _) (Nat.le_refl _) (by simp) ?_; (case hd => rfl); (case hg => rfl); (case hr => first | (go_simp; done) | (go_simp; rfl)); (case hp => exact (Reps.none _ _)); intro v331 w5 ho6 hb hg_ hnew_; clear hg_ hnew_; (first | rw [← Ny330.out] at ho6 | (simp only [Int.reduceToNat] at ho6; rw [← Ny330.out] at ho6)); have n0_ := Aside0.mk (Kd.R_elder' (xR HO329.out) (Kd.R_base ho6) hb); have n1_ := Aside0.mk (Kd.R_lower (Kd.R_new' ho6 (Kd.R_lt (xR HO329.out))) (keep_size (w := w) (g := g) (row := none) (by repeat (first | (with_reducible first | exact HK.out | apply KeepBut.set_ | apply keep_drewN | apply keep_drew | apply keep_alloc) | exact HK.out)))); have n2_ := Aside0.mk (IsS144.below (by repeat (first | (with_reducible first | exact HI1.out | apply IsS144.alloc | apply IsS144.drewN | apply IsS144.drew | apply IsS144.set_0 | apply IsS144.set_1 | apply IsS144.set_2 | apply IsS144.set_3) | exact HI1.out)) hb); have n3_ := Aside0.mk (KeepBut.trans (by repeat (first | (with_reducible first | exact HK.out | apply KeepBut.set_ | apply keep_drewN | apply keep_drew | apply keep_alloc) | exact HK.out)) (KeepBut.of_below hb g none) (.inl rfl)); have n4_ := Aside0.mk (below_step (by repeat (first | (with_reducible first | exact HB.out | apply below_alloc | apply pw_below_drewN | apply below_drew1 | refine below_set ?_ (IsS144.ge HI1.out)) | exact HB.out)) hb); clear HO329; clear HI1; clear HK; clear HB; have HO329 := n0_; have HO332 := n1_; have HI1 := n2_; have HK := n3_; have HB := n4_; clear n0_ n1_ n2_ n3_ n4_; clear hb ho6))
 go_loopg [6, 7, 14] k (fun kq v6 v7 v14 w' => ∃ (x6_1 : List Int) (x7_1 : List Int) (x14_1 : Int) (x2000_1 : Int) (x2001_1 : Int) (x2002_1 : Int) (x2003_1 : Bool), v14 = .int .i64 x14_1 ∧ Aside0 (impl_decoded.l0 kq x6_1 x7_1 l0 (l0.length : Int) x14_1 x2000_1 x2001_1 x2002_1 x2003_1 = some (r1, r2, r3, r4, r5, r6)) ∧ Aside0 (kq ≤ k) ∧ Aside0 (Kd.R (Kd.int .i64) 3 w' w.heap.size (fun k_ => some k_ ≠ (v7 : Value).ownBlock) v6 x6_1) ∧ Aside0 (Kd.R (Kd.int .i64) 3 w' w.heap.size (fun k_ => some k_ ≠ (v6 : Value).ownBlock) v7 x7_1) ∧ Aside0 (IsS144 w0 w' g x2000_1 x2001_1 x2002_1 x2003_1) ∧ Aside0 (KeepBut w w' g none) ∧ Aside0 (Below w0.heap.size w0 w'))
 case atStart => exact ⟨(y327), (y330), (0), (s1_0), (s1_1), (s1_2), (s1_3), (by first | rfl | (simp; done) | (simp [*]; done)), H', ⟨Nat.le_refl _⟩, ⟨by (with_reducible repeat (first | apply Kd.R_alloc | apply Kd.R_drewN | apply Kd.R_drew)); exact Kd.R_mono HO329.out (fun _ hk => hk.2)⟩, ⟨by (with_reducible repeat (first | apply Kd.R_alloc | apply Kd.R_drewN | apply Kd.R_drew)); exact Kd.R_mono HO332.out (fun _ hk => hk.2)⟩, ⟨by repeat (first | (with_reducible first | exact HI1.out | apply IsS144.alloc | apply IsS144.drewN | apply IsS144.drew | apply IsS144.set_0 | apply IsS144.set_1 | apply IsS144.set_2 | apply IsS144.set_3) | exact HI1.out)⟩, ⟨by repeat (first | (with_reducible first | exact HK.out | apply KeepBut.set_ | apply keep_drewN | apply keep_drew | apply keep_alloc) | exact HK.out)⟩, ⟨by repeat (first | (with_reducible first | exact HB.out | apply below_alloc | apply pw_below_drewN | apply below_drew1 | refine below_set ?_ (IsS144.ge HI1.out)) | exact HB.out)⟩⟩
 case round =>
  clear H'
  obtain ⟨x6_1, x7_1, x14_1, x2000_1, x2001_1, x2002_1, x2003_1, rfl, HA, HK1, HO_6, HO_7, HI1, HK, HB⟩ := hrel
  cases gk with
  | zero => exact absurd HA.out (by simp [impl_decoded.l0])
  | succ k1 =>
   have H := HA.out
   clear HA
   simp only [impl_decoded.l0] at H
   by_cases c7 : x14_1 < (l0.length : Int)
   rotate_left
   ·rw [if_neg c7] at H
    have c7b0 : decide (x14_1 < (l0.length : Int)) = false := decide_eq_false c7
    clear c7
    simp only [Option.some.injEq, Prod.mk.injEq] at H
    obtain ⟨rfl, rfl, rfl, rfl, rfl, rfl⟩ := H
    go_wp2
    go_ret2
    exact ⟨_, _, by first | rfl | (simp [errW_none, errW_some] <;> rfl) | (simp [*, errW_none, errW_some] <;> rfl), xR HO_6.out, xR HO_7.out, by repeat (first | (with_reducible first | exact HI1.out | apply IsS144.alloc | apply IsS144.drewN | apply IsS144.drew | apply IsS144.set_0 | apply IsS144.set_1 | apply IsS144.set_2 | apply IsS144.set_3) | exact HI1.out), by repeat (first | (with_reducible first | exact HB.out | apply below_alloc | apply pw_below_drewN | apply below_drew1 | refine below_set ?_ (IsS144.ge HI1.out)) | exact HB.out), by repeat (first | (with_reducible first | exact HK.out | apply KeepBut.set_ | apply keep_drewN | apply keep_drew | apply keep_alloc) | exact HK.out)⟩

   rw [if_pos c7] at H
   have c7b0 : decide (x14_1 < (l0.length : Int)) = true := decide_eq_true c7
   clear c7
   by_cases c8 : 0 ≤ x14_1
   rotate_left
   ·rw [if_neg c8] at H
    exact absurd H (by simp)
   rw [if_pos c8] at H
   have c8b0 : decide (0 ≤ x14_1) = true := decide_eq_true c8
   clear c8
   by_cases c9 : x14_1 < (l0.length : Int)
   rotate_left
   ·rw [if_neg c9] at H
    exact absurd H (by simp)
   rw [if_pos c9] at H
   have c9b0 : decide (x14_1 < (l0.length : Int)) = true := decide_eq_true c9
   clear c9
   replace H := Option.bind_eq_some_iff.mp H
   obtain ⟨⟨t334, t335, t336, t337⟩, A100, H⟩ := H
   (try dsimp only at H)
   have A10 := Aside0.mk A100
   clear A100
   obtain ⟨y338, hy338⟩ : ∃ y_ : List Int, y_ = (([t335] : List Int)) := ⟨_, rfl⟩
   replace H : (if x6_1.length + y338.length < 17592186044416 then ((some (([t334] : List Int) : List Int)).bind fun y344 => (if x7_1.length + y344.length < 17592186044416 then (impl_decoded.l0 k1 (x6_1 ++ y338) (x7_1 ++ y344) l0 (l0.length : Int) (wrap64 (x14_1 + 1)) t334 t335 t336 t337) else (none))) else (none)) = some (r1, r2, r3, r4, r5, r6) := by first | (rw [hy338]; with_reducible exact H) | (have H2_ := (Option.bind_some _ _).symm.trans H; rw [hy338]; with_reducible exact H2_) | (have H2_ := (Option.bind_some _ _).symm.trans H; with_reducible exact H2_) | with_reducible exact H | (rw [hy338]; exact H) | exact H
   have Ny338 := Aside0.mk hy338
   clear hy338
   by_cases c11 : x6_1.length + y338.length < 17592186044416
   rotate_left
   ·rw [if_neg c11] at H
    exact absurd H (by simp)
   rw [if_pos c11] at H
   have LMc11 := Aside0.mk c11
   clear c11
   obtain ⟨y341, hy341⟩ : ∃ y_ : List Int, y_ = (x6_1 ++ y338) := ⟨_, rfl⟩
   replace H : ((some (([t334] : List Int) : List Int)).bind fun y344 => (if x7_1.length + y344.length < 17592186044416 then (impl_decoded.l0 k1 y341 (x7_1 ++ y344) l0 (l0.length : Int) (wrap64 (x14_1 + 1)) t334 t335 t336 t337) else (none))) = some (r1, r2, r3, r4, r5, r6) := by first | (rw [hy341]; with_reducible exact H) | (have H2_ := (Option.bind_some _ _).symm.trans H; rw [hy341]; with_reducible exact H2_) | (have H2_ := (Option.bind_some _ _).symm.trans H; with_reducible exact H2_) | with_reducible exact H | (rw [hy341]; exact H) | exact H
   have Ny341 := Aside0.mk hy341
   clear hy341
   obtain ⟨y344, hy344⟩ : ∃ y_ : List Int, y_ = (([t334] : List Int)) := ⟨_, rfl⟩
   replace H : (if x7_1.length + y344.length < 17592186044416 then (impl_decoded.l0 k1 y341 (x7_1 ++ y344) l0 (l0.length : Int) (wrap64 (x14_1 + 1)) t334 t335 t336 t337) else (none)) = some (r1, r2, r3, r4, r5, r6) := by first | (rw [hy344]; with_reducible exact H) | (have H2_ := (Option.bind_some _ _).symm.trans H; rw [hy344]; with_reducible exact H2_) | (have H2_ := (Option.bind_some _ _).symm.trans H; with_reducible exact H2_) | with_reducible exact H | (rw [hy344]; exact H) | exact H
   have Ny344 := Aside0.mk hy344
   clear hy344
   by_cases c12 : x7_1.length + y344.length < 17592186044416
   rotate_left
   ·rw [if_neg c12] at H
    exact absurd H (by simp)
   rw [if_pos c12] at H
   have LMc12 := Aside0.mk c12
   clear c12
   obtain ⟨y347, hy347⟩ : ∃ y_ : List Int, y_ = (x7_1 ++ y344) := ⟨_, rfl⟩
   replace H : (impl_decoded.l0 k1 y341 y347 l0 (l0.length : Int) (wrap64 (x14_1 + 1)) t334 t335 t336 t337) = some (r1, r2, r3, r4, r5, r6) := by first | (rw [hy347]; with_reducible exact H) | (have H2_ := (Option.bind_some _ _).symm.trans H; rw [hy347]; with_reducible exact H2_) | (have H2_ := (Option.bind_some _ _).symm.trans H; with_reducible exact H2_) | with_reducible exact H | (rw [hy347]; exact H) | exact H
   have Ny347 := Aside0.mk hy347
   clear hy347
   have H' := Aside0.mk H
   clear H
   have p333 : 0 ≤ (x14_1 : Int) := of_decide_eq_true (by first | (with_reducible assumption) | assumption)
   have q333 : x14_1 < (l0.length : Int) := of_decide_eq_true (by first | (with_reducible assumption) | assumption)
   obtain ⟨ad333, e333, hx333_0⟩ := Kd.at_int HR0.out x14_1 p333 q333
   cases e333
   replace hx333_0 := keep_cell HK.out hx333_0 (by first | (rw [add_block]; exact hf0 _ rfl (by omega)) | exact hf0 _ rfl (by omega) | exact hf0 ad333 rfl (by omega))
   replace p333 := eq_true p333
   replace q333 := eq_true q333
   try go_wp2_with (first | ((with_reducible refine gate_callee (f := 372) rfl ?_); refine goesL_ (some 20) rfl rfl Try.func372 (by kernel_rfl) rfl #[.pointer (some ⟨g, 0, none⟩), .int .i64 (rd l0 x14_1)] rfl (by (try simp only [List.map_toArray, List.map_cons, List.map_nil]); first | done | rfl | (simp only [List.length_drop, List.length_take]; rfl)) ?_; (with_reducible refine (impl_stepper_take.calls g x2000_1 x2001_1 x2002_1 x2003_1 (rd l0 x14_1) t334 t335 t336 t337 w0 _ ?side1 ?side2 A10.out).mono ?_); (case side1 => repeat (first | (with_reducible first | exact HI1.out | apply IsS144.alloc | apply IsS144.drewN | apply IsS144.drew | apply IsS144.set_0 | apply IsS144.set_1 | apply IsS144.set_2 | apply IsS144.set_3) | exact HI1.out)); (case side2 => repeat (first | (with_reducible first | exact HB.out | apply below_alloc | apply pw_below_drewN | apply below_drew1 | refine below_set ?_ (IsS144.ge HI1.out)) | exact HB.out)); rintro e w13 ⟨rfl, hi, hb, hk⟩; refine ⟨_, rfl, ?_⟩; have n0_ := Aside0.mk (Kd.R_mono (Kd.R_keep (IsS144.apart (show IsS144 w0 _ g x2000_1 x2001_1 x2002_1 x2003_1 from by repeat (first | (with_reducible first | exact HI1.out | apply IsS144.alloc | apply IsS144.drewN | apply IsS144.drew | apply IsS144.set_0 | apply IsS144.set_1 | apply IsS144.set_2 | apply IsS144.set_3) | exact HI1.out)) (xR HO_6.out) (by decide)) hk (fun _ h => h.2)) (fun _ h => h.1)); have n1_ := Aside0.mk (Kd.R_mono (Kd.R_keep (IsS144.apart (show IsS144 w0 _ g x2000_1 x2001_1 x2002_1 x2003_1 from by repeat (first | (with_reducible first | exact HI1.out | apply IsS144.alloc | apply IsS144.drewN | apply IsS144.drew | apply IsS144.set_0 | apply IsS144.set_1 | apply IsS144.set_2 | apply IsS144.set_3) | exact HI1.out)) (xR HO_7.out) (by decide)) hk (fun _ h => h.2)) (fun _ h => h.1)); have n2_ := Aside0.mk (KeepBut.trans (by repeat (first | (with_reducible first | exact HK.out | apply KeepBut.set_ | apply keep_drewN | apply keep_drew | apply keep_alloc) | exact HK.out)) hk (.inl rfl)); have n3_ := Aside0.mk (hb); have n4_ := Aside0.mk (hi); clear HO_6; clear HO_7; clear HK; clear HB; clear HI1; have HO_6 := n0_; have HO_7 := n1_; have HK := n2_; have HB := n3_; have HI1 := n4_; clear n0_ n1_ n2_ n3_ n4_; (try clear hb); (try clear hb2); (try clear hk); (try clear hi); obtain ⟨Ao14, co14, eo14⟩ := Kd.R_slice HO_6.out; subst eo14; obtain ⟨Ao15, co15, eo15⟩ := Kd.R_slice HO_7.out; subst eo15))
   have n0_ := Aside0.mk (Kd.R_drew HO_6.out)
   have n1_ := Aside0.mk (Kd.R_drew HO_7.out)
   have n2_ := Aside0.mk (IsS144.drew HI1.out)
   have n3_ := Aside0.mk (keep_drew HK.out)
   have n4_ := Aside0.mk (below_drew1 HB.out)
   clear HO_6
   clear HO_7
   clear HI1
   clear HK
   clear HB
   have HO_6 := n0_
   have HO_7 := n1_
   have HI1 := n2_
   have HK := n3_
   have HB := n4_
   clear n0_ n1_ n2_ n3_ n4_
   refine start_ (n := 16) (S := fun w' => w'.cell? ⟨g, 0, none⟩ = some (.int .i64 t334) ∧ w'.cell? ⟨g, 1, none⟩ = some (.int .i64 t335) ∧ w'.cell? ⟨g, 2, none⟩ = some (.int .i64 t336) ∧ w'.cell? ⟨g, 3, none⟩ = some (.bool t337)) (ds := []) x7a0 (by kernel_rfl) rfl rfl ⟨(by obtain ⟨HG_, hg_⟩ := HI1.out; exact cellS144_0 HG_), (by obtain ⟨HG_, hg_⟩ := HI1.out; exact cellS144_1 HG_), (by obtain ⟨HG_, hg_⟩ := HI1.out; exact cellS144_2 HG_), (by obtain ⟨HG_, hg_⟩ := HI1.out; exact cellS144_3 HG_)⟩ (fun hHeld => ?_); refine with_tabW impl_decoded.tab6 impl_decoded.bits6 (fun HT_ HW_ => ?_)
   generalize w13.drew = w16 at HO_6 HO_7 HI1 HK HB hHeld ⊢
   refine pure_ (i := 0) (N := some 21) (v := ?_) (a' := ?_) x7a1 rfl rfl (any_of HT_.out (by kernel_rfl)) (fun _ _ _ h => h) (Or.inl ⟨by rfl, ?_⟩) ?_ ?_; rotate_left; (intro w'; go_simp; with_reducible rfl); rotate_left; exact xE
   refine pure_ (i := 1) (N := some 22) (v := ?_) (a' := ?_) x7a2 rfl rfl (any_of HT_.out (by kernel_rfl)) (fun _ _ _ h => h) (Or.inl ⟨by rfl, ?_⟩) ?_ ?_; rotate_left; (intro w'; go_simp; with_reducible rfl); rotate_left; exact xE
   refine pure_ (i := 2) (N := some 23) (v := ?_) (a' := ?_) x7a3 rfl rfl (any_of HT_.out (by kernel_rfl)) (fun _ _ _ h => h) (Or.inl ⟨by rfl, ?_⟩) ?_ ?_; rotate_left; (intro w'; go_simp; with_reducible rfl); rotate_left; exact xE
   refine pure_ (i := 3) (N := some 24) (v := ?_) (a' := ?_) x7a4 rfl rfl (any_of HT_.out (by kernel_rfl)) (fun _ _ _ h => h) (Or.inl ⟨by rfl, ?_⟩) ?_ ?_; rotate_left; (intro w'; go_simp; with_reducible rfl); rotate_left; exact xE
   refine pure_ (i := 7) (N := some 28) (v := ?_) (a' := ?_) x7a5 rfl rfl (any_of HT_.out (by kernel_rfl)) (fun _ _ _ h => h) (Or.inl ⟨by rfl, ?_⟩) ?_ ?_; rotate_left; (intro w'; go_simp; with_reducible rfl); rotate_left; exact xE
   refine pure_ (i := 8) (N := some 29) (v := ?_) (a' := ?_) x7a6 rfl rfl (any_of HT_.out (by kernel_rfl)) (fun _ _ _ h => h) (Or.inl ⟨by rfl, ?_⟩) ?_ ?_; rotate_left; (intro w'; go_simp; with_reducible rfl); rotate_left; exact xE
   refine pure_ (i := 9) (N := some 30) (v := ?_) (a' := ?_) x7a7 rfl rfl (any_of HT_.out (by kernel_rfl)) (fun _ _ _ h => h) (Or.inl ⟨by rfl, ?_⟩) ?_ ?_; rotate_left; (intro w'; go_simp; with_reducible rfl); rotate_left; exact xE
   refine pure_ (i := 10) (N := some 31) (v := ?_) (a' := ?_) x7a8 rfl rfl (any_of HT_.out (by kernel_rfl)) (fun _ _ _ h => h) (Or.inl ⟨by rfl, ?_⟩) ?_ ?_; rotate_left; (intro w'; go_simp; with_reducible rfl); rotate_left; exact xE
   refine take_ (i := 4) (N := some 25) (v := ?_) (a' := ?_) x7a9 rfl rfl (take_ofW HT_.out HW_.out (by kernel_rfl)) (fun _ _ _ h => h) (Or.inl ⟨by rfl, ?_⟩) hHeld ?_ ?_
   rotate_left
   ·rintro w' ⟨s0, s1, s2, s3⟩
    go_simp
    with_reducible rfl
   rotate_left
   ·exact xE
   refine take_ (i := 11) (N := some 32) (v := ?_) (a' := ?_) x7a10 rfl rfl (take_ofW HT_.out HW_.out (by kernel_rfl)) (fun _ _ _ h => h) (Or.inl ⟨by rfl, ?_⟩) hHeld ?_ ?_
   rotate_left
   ·rintro w' ⟨s0, s1, s2, s3⟩
    go_simp
    with_reducible rfl
   rotate_left
   ·exact xE
   refine join_ (σ := Value × Value × Value) 3 x7a11 (fun s_ => [(26, s_.1), (27, s_.2.1), (33, s_.2.2)]) (fun s_ w' => (w'.cell? ⟨g, 0, none⟩ = some (.int .i64 t334) ∧ w'.cell? ⟨g, 1, none⟩ = some (.int .i64 t335) ∧ w'.cell? ⟨g, 2, none⟩ = some (.int .i64 t336) ∧ w'.cell? ⟨g, 3, none⟩ = some (.bool t337)) ∧ (Kd.R (Kd.int .i64) 3 w' w.heap.size (fun k_ => some k_ ≠ (s_.2.1 : Value).ownBlock ∧ some k_ ≠ (s_.2.2 : Value).ownBlock ∧ some k_ ≠ (.slice Ao15 x7_1.length co15 : Value).ownBlock) s_.1 y338) ∧ (Kd.R (Kd.int .i64) 3 w' w.heap.size (fun k_ => some k_ ≠ (s_.1 : Value).ownBlock ∧ some k_ ≠ (s_.2.2 : Value).ownBlock ∧ some k_ ≠ (.slice Ao15 x7_1.length co15 : Value).ownBlock) s_.2.1 y341) ∧ (Kd.R (Kd.int .i64) 3 w' w.heap.size (fun k_ => some k_ ≠ (s_.1 : Value).ownBlock ∧ some k_ ≠ (s_.2.1 : Value).ownBlock ∧ some k_ ≠ (.slice Ao15 x7_1.length co15 : Value).ownBlock) s_.2.2 y344) ∧ (Kd.R (Kd.int .i64) 3 w' w.heap.size (fun k_ => some k_ ≠ (s_.1 : Value).ownBlock ∧ some k_ ≠ (s_.2.1 : Value).ownBlock ∧ some k_ ≠ (s_.2.2 : Value).ownBlock) (.slice Ao15 x7_1.length co15) x7_1) ∧ (IsS144 w0 w' g t334 t335 t336 t337) ∧ (KeepBut w w' g none) ∧ (Below w0.heap.size w0 w')) ?_ ?_
   rotate_left
   ·intro hCont
    refine two_ (i := 5) (j := 12) (Ni := some 26) (Nj := some 33) x7a12 x7a13 rfl rfl rfl rfl (two_of HT_.out (by kernel_rfl)) (by decide) (by decide) (fun K hK => ?_) (fun K hK => ?_)
    ·skip
     refine Kd.R_lit_step (Kd.int .i64) _ 3 ?hg (N := 26) ?hd (xs := ([t335] : List Int)) (inner := [.int .i64 t335]) (ok := fun _ => True) (okp := fun _ => True) ?hr ?hp (fun _ hk => hk) trivial (Below.refl _ _) (Nat.le_refl _) (by simp) ?_; (case hd => rfl); (case hg => rfl); (case hr => first | (go_simp; done) | (go_simp; rfl)); (case hp => exact (Reps.one (show Kd.M (Kd.int .i64) _ _ _ t335 [.int .i64 t335] from rfl) (Reps.none _ _)))
     intro v339 w17 ho18 hb hg_ hnew_
     clear hg_ hnew_
     (first | rw [← Ny338.out] at ho18 | (simp only [Int.reduceToNat] at ho18; rw [← Ny338.out] at ho18))
     have n0_ := Aside0.mk (Kd.R_elder' (xR HO_6.out) (Kd.R_base ho18) hb)
     have n1_ := Aside0.mk (Kd.R_elder' (xR HO_7.out) (Kd.R_base ho18) hb)
     have n2_ := Aside0.mk (Kd.R_lower (Kd.R_new' (Kd.R_new' ho18 (Kd.R_lt (xR HO_6.out))) (Kd.R_lt (xR HO_7.out))) (keep_size (w := w) (g := g) (row := none) (by repeat (first | (with_reducible first | exact HK.out | apply KeepBut.set_ | apply keep_drewN | apply keep_drew | apply keep_alloc) | exact HK.out))))
     have n3_ := Aside0.mk (IsS144.below (by repeat (first | (with_reducible first | exact HI1.out | apply IsS144.alloc | apply IsS144.drewN | apply IsS144.drew | apply IsS144.set_0 | apply IsS144.set_1 | apply IsS144.set_2 | apply IsS144.set_3) | exact HI1.out)) hb)
     have n4_ := Aside0.mk (KeepBut.trans (by repeat (first | (with_reducible first | exact HK.out | apply KeepBut.set_ | apply keep_drewN | apply keep_drew | apply keep_alloc) | exact HK.out)) (KeepBut.of_below hb g none) (.inl rfl))
     have n5_ := Aside0.mk (below_step (by repeat (first | (with_reducible first | exact HB.out | apply below_alloc | apply pw_below_drewN | apply below_drew1 | refine below_set ?_ (IsS144.ge HI1.out)) | exact HB.out)) hb)
     clear HO_6
     clear HO_7
     clear HI1
     clear HK
     clear HB
     have HO_6 := n0_
     have HO_7 := n1_
     have HO340 := n2_
     have HI1 := n3_
     have HK := n4_
     have HB := n5_
     clear n0_ n1_ n2_ n3_ n4_ n5_
     clear hb ho18
     obtain ⟨Ao20, co20, eo20⟩ := Kd.R_slice HO340.out
     (first | subst eo20 | (injection eo20 with f1_ f2_ f3_; have f4_ := f1_.symm; have f5_ := f3_.symm; clear f1_ f2_ f3_; subst f4_; subst f5_))
     refine hK.out _ _ ⟨(by obtain ⟨HG_, hg_⟩ := HI1.out; exact cellS144_0 HG_), (by obtain ⟨HG_, hg_⟩ := HI1.out; exact cellS144_1 HG_), (by obtain ⟨HG_, hg_⟩ := HI1.out; exact cellS144_2 HG_), (by obtain ⟨HG_, hg_⟩ := HI1.out; exact cellS144_3 HG_)⟩ (fun hHeld => ?_)
     clear hK K
     refine norm_ (a' := ?_) ?_ ?_
     rotate_left
     ·show Act.put _ (some 26) _ = _
      simp only [Act.put, List.setIfInBounds_toArray, List.set_cons_zero, List.set_cons_succ, i64_w, i32_w]
      rfl
     refine two_ (i := 6) (j := 12) (Ni := some 27) (Nj := some 33) x7a14 x7a15 rfl rfl rfl rfl (two_of HT_.out (by kernel_rfl)) (by decide) (by decide) (fun K hK => ?_) (fun K hK => ?_)
     ·skip
      refine Kd.R_append_rows_step (Kd.int .i64) w.heap.size (by rfl) (.tmp 21) (.tmp 26) 24 3 (.int .i64 0) 8 rfl Try.underlying24 info3 rfl (by decide) (by omega) (.slice Ao14 x6_1.length co14) x6_1 y338 _ _ _ (fun k_ => some k_ ≠ (.slice Ao15 x7_1.length co15 : Value).ownBlock ∧ some k_ ≠ (.slice Ao20 y338.length co20 : Value).ownBlock) (fun _ => False) rfl rfl ?aO ?aR (fun _ _ h => h) (fun _ h => h.elim) ?aF (Below.refl _ _) ?aS ?aL ?_
      (case aR => exact xC ((Kd.R_reads' HO340.out).2.2))
      (case aF => exact (fun k_ hk => ⟨Kd.fresh' (Kd.R_lt (xR HO_7.out)) k_ hk, Kd.fresh' (Kd.R_lt (xR HO340.out)) k_ hk⟩))
      (case aO => exact (xR HO_6.out))
      (case aS => exact (keep_size (w := w) (g := g) (row := none) (by repeat (first | (with_reducible first | exact HK.out | apply KeepBut.set_ | apply keep_drewN | apply keep_drew | apply keep_alloc) | exact HK.out))))
      (case aL => have := LMc11.out; omega)
      intro v342 w19 ho hb hg hat
      rw [← Ny341.out] at ho
      have n0_ := Aside0.mk (Kd.R_after (ok := (fun k_ => some k_ ≠ (.slice Ao20 y338.length co20 : Value).ownBlock)) (by (with_reducible repeat (first | apply Kd.R_alloc | apply Kd.R_drewN | apply Kd.R_drew)); exact Kd.R_mono HO_7.out (fun _ hk => ⟨hk.2, hk.1⟩)) hg hat)
      have n1_ := Aside0.mk (IsS144.grown (by repeat (first | (with_reducible first | exact HI1.out | apply IsS144.alloc | apply IsS144.drewN | apply IsS144.drew | apply IsS144.set_0 | apply IsS144.set_1 | apply IsS144.set_2 | apply IsS144.set_3) | exact HI1.out)) hg (IsS144.own_ne HI1.out HO_6.out (by decide)))
      have n2_ := Aside0.mk (Kd.R_after (ok := (fun k_ => some k_ ≠ (.slice Ao15 x7_1.length co15 : Value).ownBlock)) (by (with_reducible repeat (first | apply Kd.R_alloc | apply Kd.R_drewN | apply Kd.R_drew)); exact Kd.R_mono HO340.out (fun _ hk => ⟨hk.2, hk.1.2⟩)) hg hat)
      have n3_ := Aside0.mk (below_weaken (by repeat (first | (with_reducible first | exact HB.out | apply below_alloc | apply pw_below_drewN | apply below_drew1 | refine below_set ?_ (IsS144.ge HI1.out)) | exact HB.out)) HL.out hb)
      have n4_ := Aside0.mk (KeepBut.trans (by repeat (first | (with_reducible first | exact HK.out | apply KeepBut.set_ | apply keep_drewN | apply keep_drew | apply keep_alloc) | exact HK.out)) (KeepBut.of_grown hg g) (Kd.R_base2 HO_6.out))
      have n5_ := Aside0.mk (ho)
      clear HO_7
      clear HI1
      clear HO340
      clear HB
      clear HK
      clear HO_6
      have HO_7 := n0_
      have HI1 := n1_
      have HO340 := n2_
      have HB := n3_
      have HK := n4_
      have HO343 := n5_
      clear n0_ n1_ n2_ n3_ n4_ n5_
      clear ho hb hg hat
      refine hK.out _ _ ⟨(by obtain ⟨HG_, hg_⟩ := HI1.out; exact cellS144_0 HG_), (by obtain ⟨HG_, hg_⟩ := HI1.out; exact cellS144_1 HG_), (by obtain ⟨HG_, hg_⟩ := HI1.out; exact cellS144_2 HG_), (by obtain ⟨HG_, hg_⟩ := HI1.out; exact cellS144_3 HG_)⟩ (fun hHeld => ?_)
      clear hK K
      refine norm_ (a' := ?_) ?_ ?_
      rotate_left
      ·show Act.put _ (some 27) _ = _
       simp only [Act.put, List.setIfInBounds_toArray, List.set_cons_zero, List.set_cons_succ, i64_w, i32_w]
       rfl
      refine one_ (i := 12) (N := some 33) x7a11 rfl rfl (one_of HT_.out (by kernel_rfl)) (by decide) (fun K hK => ?_)
      refine Kd.R_lit_step (Kd.int .i64) _ 3 ?hg (N := 33) ?hd (xs := ([t334] : List Int)) (inner := [.int .i64 t334]) (ok := fun _ => True) (okp := fun _ => True) ?hr ?hp (fun _ hk => hk) trivial (Below.refl _ _) (Nat.le_refl _) (by simp) ?_; (case hd => rfl); (case hg => rfl); (case hr => first | (go_simp; done) | (go_simp; rfl)); (case hp => exact (Reps.one (show Kd.M (Kd.int .i64) _ _ _ t334 [.int .i64 t334] from rfl) (Reps.none _ _)))
      intro v345 w21 ho22 hb hg_ hnew_
      clear hg_ hnew_
      (first | rw [← Ny344.out] at ho22 | (simp only [Int.reduceToNat] at ho22; rw [← Ny344.out] at ho22))
      have n0_ := Aside0.mk (Kd.R_elder' (xR HO_7.out) (Kd.R_base ho22) hb)
      have n1_ := Aside0.mk (Kd.R_elder' (xR HO340.out) (Kd.R_base ho22) hb)
      have n2_ := Aside0.mk (Kd.R_elder' (xR HO343.out) (Kd.R_base ho22) hb)
      have n3_ := Aside0.mk (Kd.R_lower (Kd.R_new' (Kd.R_new' (Kd.R_new' ho22 (Kd.R_lt (xR HO_7.out))) (Kd.R_lt (xR HO340.out))) (Kd.R_lt (xR HO343.out))) (keep_size (w := w) (g := g) (row := none) (by repeat (first | (with_reducible first | exact HK.out | apply KeepBut.set_ | apply keep_drewN | apply keep_drew | apply keep_alloc) | exact HK.out))))
      have n4_ := Aside0.mk (IsS144.below (by repeat (first | (with_reducible first | exact HI1.out | apply IsS144.alloc | apply IsS144.drewN | apply IsS144.drew | apply IsS144.set_0 | apply IsS144.set_1 | apply IsS144.set_2 | apply IsS144.set_3) | exact HI1.out)) hb)
      have n5_ := Aside0.mk (KeepBut.trans (by repeat (first | (with_reducible first | exact HK.out | apply KeepBut.set_ | apply keep_drewN | apply keep_drew | apply keep_alloc) | exact HK.out)) (KeepBut.of_below hb g none) (.inl rfl))
      have n6_ := Aside0.mk (below_step (by repeat (first | (with_reducible first | exact HB.out | apply below_alloc | apply pw_below_drewN | apply below_drew1 | refine below_set ?_ (IsS144.ge HI1.out)) | exact HB.out)) hb)
      clear HO_7
      clear HO340
      clear HO343
      clear HI1
      clear HK
      clear HB
      have HO_7 := n0_
      have HO340 := n1_
      have HO343 := n2_
      have HO346 := n3_
      have HI1 := n4_
      have HK := n5_
      have HB := n6_
      clear n0_ n1_ n2_ n3_ n4_ n5_ n6_
      clear hb ho22
      refine hK.out _ _ ⟨(by obtain ⟨HG_, hg_⟩ := HI1.out; exact cellS144_0 HG_), (by obtain ⟨HG_, hg_⟩ := HI1.out; exact cellS144_1 HG_), (by obtain ⟨HG_, hg_⟩ := HI1.out; exact cellS144_2 HG_), (by obtain ⟨HG_, hg_⟩ := HI1.out; exact cellS144_3 HG_)⟩ (fun hHeld => ?_)
      clear hK K
      refine norm_ (a' := ?_) ?_ ?_
      rotate_left
      ·show Act.put _ (some 33) _ = _
       simp only [Act.put, List.setIfInBounds_toArray, List.set_cons_zero, List.set_cons_succ, i64_w, i32_w]
       rfl
      exact norm_ (by simp only [putAll, Act.put, List.setIfInBounds_toArray, List.set_cons_zero, List.set_cons_succ]) (hCont (.slice Ao20 y338.length co20, v342, v345) _ ⟨hHeld, (by (with_reducible repeat (first | apply Kd.R_alloc | apply Kd.R_drewN | apply Kd.R_drew)); exact Kd.R_mono HO340.out (fun _ hk => ⟨hk.1.2, ⟨hk.2, hk.1.1⟩⟩)), (by (with_reducible repeat (first | apply Kd.R_alloc | apply Kd.R_drewN | apply Kd.R_drew)); exact Kd.R_mono HO343.out (fun _ hk => ⟨hk.1.2, ⟨hk.2, hk.1.1⟩⟩)), (by (with_reducible repeat (first | apply Kd.R_alloc | apply Kd.R_drewN | apply Kd.R_drew)); exact Kd.R_mono HO346.out (fun _ hk => ⟨hk.1.2, ⟨hk.2, hk.1.1.2⟩⟩)), (by (with_reducible repeat (first | apply Kd.R_alloc | apply Kd.R_drewN | apply Kd.R_drew)); exact Kd.R_mono HO_7.out (fun _ hk => ⟨hk.1.1, ⟨hk.1.2, hk.2⟩⟩)), (by repeat (first | (with_reducible first | exact HI1.out | apply IsS144.alloc | apply IsS144.drewN | apply IsS144.drew | apply IsS144.set_0 | apply IsS144.set_1 | apply IsS144.set_2 | apply IsS144.set_3) | exact HI1.out)), (by repeat (first | (with_reducible first | exact HK.out | apply KeepBut.set_ | apply keep_drewN | apply keep_drew | apply keep_alloc) | exact HK.out)), (by repeat (first | (with_reducible first | exact HB.out | apply below_alloc | apply pw_below_drewN | apply below_drew1 | refine below_set ?_ (IsS144.ge HI1.out)) | exact HB.out))⟩)
     ·skip
      refine Kd.R_lit_step (Kd.int .i64) _ 3 ?hg (N := 33) ?hd (xs := ([t334] : List Int)) (inner := [.int .i64 t334]) (ok := fun _ => True) (okp := fun _ => True) ?hr ?hp (fun _ hk => hk) trivial (Below.refl _ _) (Nat.le_refl _) (by simp) ?_; (case hd => rfl); (case hg => rfl); (case hr => first | (go_simp; done) | (go_simp; rfl)); (case hp => exact (Reps.one (show Kd.M (Kd.int .i64) _ _ _ t334 [.int .i64 t334] from rfl) (Reps.none _ _)))
      intro v345 w19 ho20 hb hg_ hnew_
      clear hg_ hnew_
      (first | rw [← Ny344.out] at ho20 | (simp only [Int.reduceToNat] at ho20; rw [← Ny344.out] at ho20))
      have n0_ := Aside0.mk (Kd.R_elder' (xR HO_6.out) (Kd.R_base ho20) hb)
      have n1_ := Aside0.mk (Kd.R_elder' (xR HO_7.out) (Kd.R_base ho20) hb)
      have n2_ := Aside0.mk (Kd.R_elder' (xR HO340.out) (Kd.R_base ho20) hb)
      have n3_ := Aside0.mk (Kd.R_lower (Kd.R_new' (Kd.R_new' (Kd.R_new' ho20 (Kd.R_lt (xR HO_6.out))) (Kd.R_lt (xR HO_7.out))) (Kd.R_lt (xR HO340.out))) (keep_size (w := w) (g := g) (row := none) (by repeat (first | (with_reducible first | exact HK.out | apply KeepBut.set_ | apply keep_drewN | apply keep_drew | apply keep_alloc) | exact HK.out))))
      have n4_ := Aside0.mk (IsS144.below (by repeat (first | (with_reducible first | exact HI1.out | apply IsS144.alloc | apply IsS144.drewN | apply IsS144.drew | apply IsS144.set_0 | apply IsS144.set_1 | apply IsS144.set_2 | apply IsS144.set_3) | exact HI1.out)) hb)
      have n5_ := Aside0.mk (KeepBut.trans (by repeat (first | (with_reducible first | exact HK.out | apply KeepBut.set_ | apply keep_drewN | apply keep_drew | apply keep_alloc) | exact HK.out)) (KeepBut.of_below hb g none) (.inl rfl))
      have n6_ := Aside0.mk (below_step (by repeat (first | (with_reducible first | exact HB.out | apply below_alloc | apply pw_below_drewN | apply below_drew1 | refine below_set ?_ (IsS144.ge HI1.out)) | exact HB.out)) hb)
      clear HO_6
      clear HO_7
      clear HO340
      clear HI1
      clear HK
      clear HB
      have HO_6 := n0_
      have HO_7 := n1_
      have HO340 := n2_
      have HO346 := n3_
      have HI1 := n4_
      have HK := n5_
      have HB := n6_
      clear n0_ n1_ n2_ n3_ n4_ n5_ n6_
      clear hb ho20
      obtain ⟨Ao22, co22, eo22⟩ := Kd.R_slice HO340.out
      (first | subst eo22 | (injection eo22 with f1_ f2_ f3_; have f4_ := f1_.symm; have f5_ := f3_.symm; clear f1_ f2_ f3_; subst f4_; subst f5_))
      refine hK.out _ _ ⟨(by obtain ⟨HG_, hg_⟩ := HI1.out; exact cellS144_0 HG_), (by obtain ⟨HG_, hg_⟩ := HI1.out; exact cellS144_1 HG_), (by obtain ⟨HG_, hg_⟩ := HI1.out; exact cellS144_2 HG_), (by obtain ⟨HG_, hg_⟩ := HI1.out; exact cellS144_3 HG_)⟩ (fun hHeld => ?_)
      clear hK K
      refine norm_ (a' := ?_) ?_ ?_
      rotate_left
      ·show Act.put _ (some 33) _ = _
       simp only [Act.put, List.setIfInBounds_toArray, List.set_cons_zero, List.set_cons_succ, i64_w, i32_w]
       rfl
      refine one_ (i := 6) (N := some 27) x7a11 rfl rfl (one_of HT_.out (by kernel_rfl)) (by decide) (fun K hK => ?_)
      refine Kd.R_append_rows_step (Kd.int .i64) w.heap.size (by rfl) (.tmp 21) (.tmp 26) 24 3 (.int .i64 0) 8 rfl Try.underlying24 info3 rfl (by decide) (by omega) (.slice Ao14 x6_1.length co14) x6_1 y338 _ _ _ (fun k_ => some k_ ≠ (.slice Ao15 x7_1.length co15 : Value).ownBlock ∧ some k_ ≠ (.slice Ao22 y338.length co22 : Value).ownBlock ∧ some k_ ≠ (v345 : Value).ownBlock) (fun _ => False) rfl rfl ?aO ?aR (fun _ _ h => h) (fun _ h => h.elim) ?aF (Below.refl _ _) ?aS ?aL ?_
      (case aR => exact xC ((Kd.R_reads' HO340.out).2.2))
      (case aF => exact (fun k_ hk => ⟨Kd.fresh' (Kd.R_lt (xR HO_7.out)) k_ hk, Kd.fresh' (Kd.R_lt (xR HO340.out)) k_ hk, Kd.fresh' (Kd.R_lt (xR HO346.out)) k_ hk⟩))
      (case aO => exact (by (with_reducible repeat (first | apply Kd.R_alloc | apply Kd.R_drewN | apply Kd.R_drew)); exact Kd.R_mono HO_6.out (fun _ hk => ⟨hk.1.1, ⟨hk.1.2, hk.2⟩⟩)))
      (case aS => exact (keep_size (w := w) (g := g) (row := none) (by repeat (first | (with_reducible first | exact HK.out | apply KeepBut.set_ | apply keep_drewN | apply keep_drew | apply keep_alloc) | exact HK.out))))
      (case aL => have := LMc11.out; omega)
      intro v342 w21 ho hb hg hat
      rw [← Ny341.out] at ho
      have n0_ := Aside0.mk (Kd.R_after (ok := (fun k_ => some k_ ≠ (.slice Ao22 y338.length co22 : Value).ownBlock ∧ some k_ ≠ (v345 : Value).ownBlock)) (by (with_reducible repeat (first | apply Kd.R_alloc | apply Kd.R_drewN | apply Kd.R_drew)); exact Kd.R_mono HO_7.out (fun _ hk => ⟨⟨hk.1.2, hk.2⟩, hk.1.1⟩)) hg hat)
      have n1_ := Aside0.mk (IsS144.grown (by repeat (first | (with_reducible first | exact HI1.out | apply IsS144.alloc | apply IsS144.drewN | apply IsS144.drew | apply IsS144.set_0 | apply IsS144.set_1 | apply IsS144.set_2 | apply IsS144.set_3) | exact HI1.out)) hg (IsS144.own_ne HI1.out HO_6.out (by decide)))
      have n2_ := Aside0.mk (Kd.R_after (ok := (fun k_ => some k_ ≠ (.slice Ao15 x7_1.length co15 : Value).ownBlock ∧ some k_ ≠ (v345 : Value).ownBlock)) (by (with_reducible repeat (first | apply Kd.R_alloc | apply Kd.R_drewN | apply Kd.R_drew)); exact Kd.R_mono HO340.out (fun _ hk => ⟨⟨hk.1.2, hk.2⟩, hk.1.1.2⟩)) hg hat)
      have n3_ := Aside0.mk (Kd.R_after (ok := (fun k_ => some k_ ≠ (.slice Ao15 x7_1.length co15 : Value).ownBlock ∧ some k_ ≠ (.slice Ao22 y338.length co22 : Value).ownBlock)) (by (with_reducible repeat (first | apply Kd.R_alloc | apply Kd.R_drewN | apply Kd.R_drew)); exact Kd.R_mono HO346.out (fun _ hk => ⟨⟨hk.1.2, hk.2⟩, hk.1.1.2⟩)) hg hat)
      have n4_ := Aside0.mk (below_weaken (by repeat (first | (with_reducible first | exact HB.out | apply below_alloc | apply pw_below_drewN | apply below_drew1 | refine below_set ?_ (IsS144.ge HI1.out)) | exact HB.out)) HL.out hb)
      have n5_ := Aside0.mk (KeepBut.trans (by repeat (first | (with_reducible first | exact HK.out | apply KeepBut.set_ | apply keep_drewN | apply keep_drew | apply keep_alloc) | exact HK.out)) (KeepBut.of_grown hg g) (Kd.R_base2 HO_6.out))
      have n6_ := Aside0.mk (ho)
      clear HO_7
      clear HI1
      clear HO340
      clear HO346
      clear HB
      clear HK
      clear HO_6
      have HO_7 := n0_
      have HI1 := n1_
      have HO340 := n2_
      have HO346 := n3_
      have HB := n4_
      have HK := n5_
      have HO343 := n6_
      clear n0_ n1_ n2_ n3_ n4_ n5_ n6_
      clear ho hb hg hat
      refine hK.out _ _ ⟨(by obtain ⟨HG_, hg_⟩ := HI1.out; exact cellS144_0 HG_), (by obtain ⟨HG_, hg_⟩ := HI1.out; exact cellS144_1 HG_), (by obtain ⟨HG_, hg_⟩ := HI1.out; exact cellS144_2 HG_), (by obtain ⟨HG_, hg_⟩ := HI1.out; exact cellS144_3 HG_)⟩ (fun hHeld => ?_)
      clear hK K
      refine norm_ (a' := ?_) ?_ ?_
      rotate_left
      ·show Act.put _ (some 27) _ = _
       simp only [Act.put, List.setIfInBounds_toArray, List.set_cons_zero, List.set_cons_succ, i64_w, i32_w]
       rfl
      exact norm_ (by simp only [putAll, Act.put, List.setIfInBounds_toArray, List.set_cons_zero, List.set_cons_succ]) (hCont (.slice Ao22 y338.length co22, v342, v345) _ ⟨hHeld, (by (with_reducible repeat (first | apply Kd.R_alloc | apply Kd.R_drewN | apply Kd.R_drew)); exact Kd.R_mono HO340.out (fun _ hk => ⟨hk.2, ⟨hk.1.2, hk.1.1⟩⟩)), (by (with_reducible repeat (first | apply Kd.R_alloc | apply Kd.R_drewN | apply Kd.R_drew)); exact Kd.R_mono HO343.out (fun _ hk => ⟨hk.2.1, ⟨hk.2.2, hk.1⟩⟩)), (by (with_reducible repeat (first | apply Kd.R_alloc | apply Kd.R_drewN | apply Kd.R_drew)); exact Kd.R_mono HO346.out (fun _ hk => ⟨hk.1.2, ⟨hk.2, hk.1.1⟩⟩)), (by (with_reducible repeat (first | apply Kd.R_alloc | apply Kd.R_drewN | apply Kd.R_drew)); exact Kd.R_mono HO_7.out (fun _ hk => ⟨hk.1.1, ⟨hk.2, hk.1.2⟩⟩)), (by repeat (first | (with_reducible first | exact HI1.out | apply IsS144.alloc | apply IsS144.drewN | apply IsS144.drew | apply IsS144.set_0 | apply IsS144.set_1 | apply IsS144.set_2 | apply IsS144.set_3) | exact HI1.out)), (by repeat (first | (with_reducible first | exact HK.out | apply KeepBut.set_ | apply keep_drewN | apply keep_drew | apply keep_alloc) | exact HK.out)), (by repeat (first | (with_reducible first | exact HB.out | apply below_alloc | apply pw_below_drewN | apply below_drew1 | refine below_set ?_ (IsS144.ge HI1.out)) | exact HB.out))⟩)
    ·skip
     refine Kd.R_lit_step (Kd.int .i64) _ 3 ?hg (N := 33) ?hd (xs := ([t334] : List Int)) (inner := [.int .i64 t334]) (ok := fun _ => True) (okp := fun _ => True) ?hr ?hp (fun _ hk => hk) trivial (Below.refl _ _) (Nat.le_refl _) (by simp) ?_; (case hd => rfl); (case hg => rfl); (case hr => first | (go_simp; done) | (go_simp; rfl)); (case hp => exact (Reps.one (show Kd.M (Kd.int .i64) _ _ _ t334 [.int .i64 t334] from rfl) (Reps.none _ _)))
     intro v345 w17 ho18 hb hg_ hnew_
     clear hg_ hnew_
     (first | rw [← Ny344.out] at ho18 | (simp only [Int.reduceToNat] at ho18; rw [← Ny344.out] at ho18))
     have n0_ := Aside0.mk (Kd.R_elder' (xR HO_6.out) (Kd.R_base ho18) hb)
     have n1_ := Aside0.mk (Kd.R_elder' (xR HO_7.out) (Kd.R_base ho18) hb)
     have n2_ := Aside0.mk (Kd.R_lower (Kd.R_new' (Kd.R_new' ho18 (Kd.R_lt (xR HO_6.out))) (Kd.R_lt (xR HO_7.out))) (keep_size (w := w) (g := g) (row := none) (by repeat (first | (with_reducible first | exact HK.out | apply KeepBut.set_ | apply keep_drewN | apply keep_drew | apply keep_alloc) | exact HK.out))))
     have n3_ := Aside0.mk (IsS144.below (by repeat (first | (with_reducible first | exact HI1.out | apply IsS144.alloc | apply IsS144.drewN | apply IsS144.drew | apply IsS144.set_0 | apply IsS144.set_1 | apply IsS144.set_2 | apply IsS144.set_3) | exact HI1.out)) hb)
     have n4_ := Aside0.mk (KeepBut.trans (by repeat (first | (with_reducible first | exact HK.out | apply KeepBut.set_ | apply keep_drewN | apply keep_drew | apply keep_alloc) | exact HK.out)) (KeepBut.of_below hb g none) (.inl rfl))
     have n5_ := Aside0.mk (below_step (by repeat (first | (with_reducible first | exact HB.out | apply below_alloc | apply pw_below_drewN | apply below_drew1 | refine below_set ?_ (IsS144.ge HI1.out)) | exact HB.out)) hb)
     clear HO_6
     clear HO_7
     clear HI1
     clear HK
     clear HB
     have HO_6 := n0_
     have HO_7 := n1_
     have HO346 := n2_
     have HI1 := n3_
     have HK := n4_
     have HB := n5_
     clear n0_ n1_ n2_ n3_ n4_ n5_
     clear hb ho18
     refine hK.out _ _ ⟨(by obtain ⟨HG_, hg_⟩ := HI1.out; exact cellS144_0 HG_), (by obtain ⟨HG_, hg_⟩ := HI1.out; exact cellS144_1 HG_), (by obtain ⟨HG_, hg_⟩ := HI1.out; exact cellS144_2 HG_), (by obtain ⟨HG_, hg_⟩ := HI1.out; exact cellS144_3 HG_)⟩ (fun hHeld => ?_)
     clear hK K
     refine norm_ (a' := ?_) ?_ ?_
     rotate_left
     ·show Act.put _ (some 33) _ = _
      simp only [Act.put, List.setIfInBounds_toArray, List.set_cons_zero, List.set_cons_succ, i64_w, i32_w]
      rfl
     refine one_ (i := 5) (N := some 26) x7a15 rfl rfl (one_of HT_.out (by kernel_rfl)) (by decide) (fun K hK => ?_)
     refine Kd.R_lit_step (Kd.int .i64) _ 3 ?hg (N := 26) ?hd (xs := ([t335] : List Int)) (inner := [.int .i64 t335]) (ok := fun _ => True) (okp := fun _ => True) ?hr ?hp (fun _ hk => hk) trivial (Below.refl _ _) (Nat.le_refl _) (by simp) ?_; (case hd => rfl); (case hg => rfl); (case hr => first | (go_simp; done) | (go_simp; rfl)); (case hp => exact (Reps.one (show Kd.M (Kd.int .i64) _ _ _ t335 [.int .i64 t335] from rfl) (Reps.none _ _)))
     intro v339 w19 ho20 hb hg_ hnew_
     clear hg_ hnew_
     (first | rw [← Ny338.out] at ho20 | (simp only [Int.reduceToNat] at ho20; rw [← Ny338.out] at ho20))
     have n0_ := Aside0.mk (Kd.R_elder' (xR HO_6.out) (Kd.R_base ho20) hb)
     have n1_ := Aside0.mk (Kd.R_elder' (xR HO_7.out) (Kd.R_base ho20) hb)
     have n2_ := Aside0.mk (Kd.R_elder' (xR HO346.out) (Kd.R_base ho20) hb)
     have n3_ := Aside0.mk (Kd.R_lower (Kd.R_new' (Kd.R_new' (Kd.R_new' ho20 (Kd.R_lt (xR HO_6.out))) (Kd.R_lt (xR HO_7.out))) (Kd.R_lt (xR HO346.out))) (keep_size (w := w) (g := g) (row := none) (by repeat (first | (with_reducible first | exact HK.out | apply KeepBut.set_ | apply keep_drewN | apply keep_drew | apply keep_alloc) | exact HK.out))))
     have n4_ := Aside0.mk (IsS144.below (by repeat (first | (with_reducible first | exact HI1.out | apply IsS144.alloc | apply IsS144.drewN | apply IsS144.drew | apply IsS144.set_0 | apply IsS144.set_1 | apply IsS144.set_2 | apply IsS144.set_3) | exact HI1.out)) hb)
     have n5_ := Aside0.mk (KeepBut.trans (by repeat (first | (with_reducible first | exact HK.out | apply KeepBut.set_ | apply keep_drewN | apply keep_drew | apply keep_alloc) | exact HK.out)) (KeepBut.of_below hb g none) (.inl rfl))
     have n6_ := Aside0.mk (below_step (by repeat (first | (with_reducible first | exact HB.out | apply below_alloc | apply pw_below_drewN | apply below_drew1 | refine below_set ?_ (IsS144.ge HI1.out)) | exact HB.out)) hb)
     clear HO_6
     clear HO_7
     clear HO346
     clear HI1
     clear HK
     clear HB
     have HO_6 := n0_
     have HO_7 := n1_
     have HO346 := n2_
     have HO340 := n3_
     have HI1 := n4_
     have HK := n5_
     have HB := n6_
     clear n0_ n1_ n2_ n3_ n4_ n5_ n6_
     clear hb ho20
     obtain ⟨Ao22, co22, eo22⟩ := Kd.R_slice HO340.out
     (first | subst eo22 | (injection eo22 with f1_ f2_ f3_; have f4_ := f1_.symm; have f5_ := f3_.symm; clear f1_ f2_ f3_; subst f4_; subst f5_))
     refine hK.out _ _ ⟨(by obtain ⟨HG_, hg_⟩ := HI1.out; exact cellS144_0 HG_), (by obtain ⟨HG_, hg_⟩ := HI1.out; exact cellS144_1 HG_), (by obtain ⟨HG_, hg_⟩ := HI1.out; exact cellS144_2 HG_), (by obtain ⟨HG_, hg_⟩ := HI1.out; exact cellS144_3 HG_)⟩ (fun hHeld => ?_)
     clear hK K
     refine norm_ (a' := ?_) ?_ ?_
     rotate_left
     ·show Act.put _ (some 26) _ = _
      simp only [Act.put, List.setIfInBounds_toArray, List.set_cons_zero, List.set_cons_succ, i64_w, i32_w]
      rfl
     refine one_ (i := 6) (N := some 27) x7a11 rfl rfl (one_of HT_.out (by kernel_rfl)) (by decide) (fun K hK => ?_)
     refine Kd.R_append_rows_step (Kd.int .i64) w.heap.size (by rfl) (.tmp 21) (.tmp 26) 24 3 (.int .i64 0) 8 rfl Try.underlying24 info3 rfl (by decide) (by omega) (.slice Ao14 x6_1.length co14) x6_1 y338 _ _ _ (fun k_ => some k_ ≠ (.slice Ao15 x7_1.length co15 : Value).ownBlock ∧ some k_ ≠ (v345 : Value).ownBlock ∧ some k_ ≠ (.slice Ao22 y338.length co22 : Value).ownBlock) (fun _ => False) rfl rfl ?aO ?aR (fun _ _ h => h) (fun _ h => h.elim) ?aF (Below.refl _ _) ?aS ?aL ?_
     (case aR => exact xC ((Kd.R_reads' HO340.out).2.2))
     (case aF => exact (fun k_ hk => ⟨Kd.fresh' (Kd.R_lt (xR HO_7.out)) k_ hk, Kd.fresh' (Kd.R_lt (xR HO346.out)) k_ hk, Kd.fresh' (Kd.R_lt (xR HO340.out)) k_ hk⟩))
     (case aO => exact (by (with_reducible repeat (first | apply Kd.R_alloc | apply Kd.R_drewN | apply Kd.R_drew)); exact Kd.R_mono HO_6.out (fun _ hk => ⟨hk.1.1, ⟨hk.1.2, hk.2⟩⟩)))
     (case aS => exact (keep_size (w := w) (g := g) (row := none) (by repeat (first | (with_reducible first | exact HK.out | apply KeepBut.set_ | apply keep_drewN | apply keep_drew | apply keep_alloc) | exact HK.out))))
     (case aL => have := LMc11.out; omega)
     intro v342 w21 ho hb hg hat
     rw [← Ny341.out] at ho
     have n0_ := Aside0.mk (Kd.R_after (ok := (fun k_ => some k_ ≠ (v345 : Value).ownBlock ∧ some k_ ≠ (.slice Ao22 y338.length co22 : Value).ownBlock)) (by (with_reducible repeat (first | apply Kd.R_alloc | apply Kd.R_drewN | apply Kd.R_drew)); exact Kd.R_mono HO_7.out (fun _ hk => ⟨⟨hk.1.2, hk.2⟩, hk.1.1⟩)) hg hat)
     have n1_ := Aside0.mk (IsS144.grown (by repeat (first | (with_reducible first | exact HI1.out | apply IsS144.alloc | apply IsS144.drewN | apply IsS144.drew | apply IsS144.set_0 | apply IsS144.set_1 | apply IsS144.set_2 | apply IsS144.set_3) | exact HI1.out)) hg (IsS144.own_ne HI1.out HO_6.out (by decide)))
     have n2_ := Aside0.mk (Kd.R_after (ok := (fun k_ => some k_ ≠ (.slice Ao15 x7_1.length co15 : Value).ownBlock ∧ some k_ ≠ (.slice Ao22 y338.length co22 : Value).ownBlock)) (by (with_reducible repeat (first | apply Kd.R_alloc | apply Kd.R_drewN | apply Kd.R_drew)); exact Kd.R_mono HO346.out (fun _ hk => ⟨⟨hk.1.2, hk.2⟩, hk.1.1.2⟩)) hg hat)
     have n3_ := Aside0.mk (Kd.R_after (ok := (fun k_ => some k_ ≠ (.slice Ao15 x7_1.length co15 : Value).ownBlock ∧ some k_ ≠ (v345 : Value).ownBlock)) (by (with_reducible repeat (first | apply Kd.R_alloc | apply Kd.R_drewN | apply Kd.R_drew)); exact Kd.R_mono HO340.out (fun _ hk => ⟨⟨hk.1.2, hk.2⟩, hk.1.1.2⟩)) hg hat)
     have n4_ := Aside0.mk (below_weaken (by repeat (first | (with_reducible first | exact HB.out | apply below_alloc | apply pw_below_drewN | apply below_drew1 | refine below_set ?_ (IsS144.ge HI1.out)) | exact HB.out)) HL.out hb)
     have n5_ := Aside0.mk (KeepBut.trans (by repeat (first | (with_reducible first | exact HK.out | apply KeepBut.set_ | apply keep_drewN | apply keep_drew | apply keep_alloc) | exact HK.out)) (KeepBut.of_grown hg g) (Kd.R_base2 HO_6.out))
     have n6_ := Aside0.mk (ho)
     clear HO_7
     clear HI1
     clear HO346
     clear HO340
     clear HB
     clear HK
     clear HO_6
     have HO_7 := n0_
     have HI1 := n1_
     have HO346 := n2_
     have HO340 := n3_
     have HB := n4_
     have HK := n5_
     have HO343 := n6_
     clear n0_ n1_ n2_ n3_ n4_ n5_ n6_
     clear ho hb hg hat
     refine hK.out _ _ ⟨(by obtain ⟨HG_, hg_⟩ := HI1.out; exact cellS144_0 HG_), (by obtain ⟨HG_, hg_⟩ := HI1.out; exact cellS144_1 HG_), (by obtain ⟨HG_, hg_⟩ := HI1.out; exact cellS144_2 HG_), (by obtain ⟨HG_, hg_⟩ := HI1.out; exact cellS144_3 HG_)⟩ (fun hHeld => ?_)
     clear hK K
     refine norm_ (a' := ?_) ?_ ?_
     rotate_left
     ·show Act.put _ (some 27) _ = _
      simp only [Act.put, List.setIfInBounds_toArray, List.set_cons_zero, List.set_cons_succ, i64_w, i32_w]
      rfl
     exact norm_ (by simp only [putAll, Act.put, List.setIfInBounds_toArray, List.set_cons_zero, List.set_cons_succ]) (hCont (.slice Ao22 y338.length co22, v342, v345) _ ⟨hHeld, (by (with_reducible repeat (first | apply Kd.R_alloc | apply Kd.R_drewN | apply Kd.R_drew)); exact Kd.R_mono HO340.out (fun _ hk => ⟨hk.2, ⟨hk.1.2, hk.1.1⟩⟩)), (by (with_reducible repeat (first | apply Kd.R_alloc | apply Kd.R_drewN | apply Kd.R_drew)); exact Kd.R_mono HO343.out (fun _ hk => ⟨hk.2.2, ⟨hk.2.1, hk.1⟩⟩)), (by (with_reducible repeat (first | apply Kd.R_alloc | apply Kd.R_drewN | apply Kd.R_drew)); exact Kd.R_mono HO346.out (fun _ hk => ⟨hk.1.2, ⟨hk.2, hk.1.1⟩⟩)), (by (with_reducible repeat (first | apply Kd.R_alloc | apply Kd.R_drewN | apply Kd.R_drew)); exact Kd.R_mono HO_7.out (fun _ hk => ⟨hk.1.2, ⟨hk.2, hk.1.1⟩⟩)), (by repeat (first | (with_reducible first | exact HI1.out | apply IsS144.alloc | apply IsS144.drewN | apply IsS144.drew | apply IsS144.set_0 | apply IsS144.set_1 | apply IsS144.set_2 | apply IsS144.set_3) | exact HI1.out)), (by repeat (first | (with_reducible first | exact HK.out | apply KeepBut.set_ | apply keep_drewN | apply keep_drew | apply keep_alloc) | exact HK.out)), (by repeat (first | (with_reducible first | exact HB.out | apply below_alloc | apply pw_below_drewN | apply below_drew1 | refine below_set ?_ (IsS144.ge HI1.out)) | exact HB.out))⟩)
   rintro ⟨v339, v342, v345⟩ w23 ⟨hS_, h0_, h1_, h2_, h3_, h4_, h5_, h6_⟩
   have n0_ : Aside0 (Kd.R (Kd.int .i64) 3 w23 w.heap.size (fun k_ => some k_ ≠ (v342 : Value).ownBlock ∧ some k_ ≠ (v345 : Value).ownBlock ∧ some k_ ≠ (.slice Ao15 x7_1.length co15 : Value).ownBlock) v339 y338) := ⟨h0_⟩
   have n1_ : Aside0 (Kd.R (Kd.int .i64) 3 w23 w.heap.size (fun k_ => some k_ ≠ (v339 : Value).ownBlock ∧ some k_ ≠ (v345 : Value).ownBlock ∧ some k_ ≠ (.slice Ao15 x7_1.length co15 : Value).ownBlock) v342 y341) := ⟨h1_⟩
   have n2_ : Aside0 (Kd.R (Kd.int .i64) 3 w23 w.heap.size (fun k_ => some k_ ≠ (v339 : Value).ownBlock ∧ some k_ ≠ (v342 : Value).ownBlock ∧ some k_ ≠ (.slice Ao15 x7_1.length co15 : Value).ownBlock) v345 y344) := ⟨h2_⟩
   have n3_ : Aside0 (Kd.R (Kd.int .i64) 3 w23 w.heap.size (fun k_ => some k_ ≠ (v339 : Value).ownBlock ∧ some k_ ≠ (v342 : Value).ownBlock ∧ some k_ ≠ (v345 : Value).ownBlock) (.slice Ao15 x7_1.length co15) x7_1) := ⟨h3_⟩
   have n4_ : Aside0 (IsS144 w0 w23 g t334 t335 t336 t337) := ⟨h4_⟩
   have n5_ : Aside0 (KeepBut w w23 g none) := ⟨h5_⟩
   have n6_ : Aside0 (Below w0.heap.size w0 w23) := ⟨h6_⟩
   clear HO_6
   clear HO_7
   clear HI1
   clear HK
   clear HB
   clear h0_ h1_ h2_ h3_ h4_ h5_ h6_
   have HO340 := n0_
   have HO343 := n1_
   have HO346 := n2_
   have HO_7 := n3_
   have HI1 := n4_
   have HK := n5_
   have HB := n6_
   clear n0_ n1_ n2_ n3_ n4_ n5_ n6_
   have hHeld : w23.cell? ⟨g, 0, none⟩ = some (.int .i64 t334) ∧ w23.cell? ⟨g, 1, none⟩ = some (.int .i64 t335) ∧ w23.cell? ⟨g, 2, none⟩ = some (.int .i64 t336) ∧ w23.cell? ⟨g, 3, none⟩ = some (.bool t337) := hS_
   obtain ⟨Ao25, co25, eo25⟩ := Kd.R_slice HO346.out
   (first | subst eo25 | (injection eo25 with f1_ f2_ f3_; have f4_ := f1_.symm; have f5_ := f3_.symm; clear f1_ f2_ f3_; subst f4_; subst f5_))
   refine norm_ (a' := ?_) ?_ ?_
   rotate_left
   ·simp only [putAll, Act.put, List.setIfInBounds_toArray, List.set_cons_zero, List.set_cons_succ]
    rfl
   refine one_ (i := 13) (N := some 34) x7a16 rfl rfl (one_of HT_.out (by kernel_rfl)) (by decide) (fun K hK => ?_)
   refine Kd.R_append_rows_step (Kd.int .i64) w.heap.size (by rfl) (.tmp 28) (.tmp 33) 24 3 (.int .i64 0) 8 rfl Try.underlying24 info3 rfl (by decide) (by omega) (.slice Ao15 x7_1.length co15) x7_1 y344 _ _ _ (fun k_ => some k_ ≠ (v339 : Value).ownBlock ∧ some k_ ≠ (v342 : Value).ownBlock ∧ some k_ ≠ (.slice Ao25 y344.length co25 : Value).ownBlock) (fun _ => False) rfl rfl ?aO ?aR (fun _ _ h => h) (fun _ h => h.elim) ?aF (Below.refl _ _) ?aS ?aL ?_
   (case aR => exact xC ((Kd.R_reads' HO346.out).2.2))
   (case aF => exact (fun k_ hk => ⟨Kd.fresh' (Kd.R_lt (xR HO340.out)) k_ hk, Kd.fresh' (Kd.R_lt (xR HO343.out)) k_ hk, Kd.fresh' (Kd.R_lt (xR HO346.out)) k_ hk⟩))
   (case aO => exact (xR HO_7.out))
   (case aS => exact (keep_size (w := w) (g := g) (row := none) (by repeat (first | (with_reducible first | exact HK.out | apply KeepBut.set_ | apply keep_drewN | apply keep_drew | apply keep_alloc) | exact HK.out))))
   (case aL => have := LMc12.out; omega)
   intro v348 w24 ho hb hg hat
   rw [← Ny347.out] at ho
   have n0_ := Aside0.mk (IsS144.grown (by repeat (first | (with_reducible first | exact HI1.out | apply IsS144.alloc | apply IsS144.drewN | apply IsS144.drew | apply IsS144.set_0 | apply IsS144.set_1 | apply IsS144.set_2 | apply IsS144.set_3) | exact HI1.out)) hg (IsS144.own_ne HI1.out HO_7.out (by decide)))
   have n1_ := Aside0.mk (Kd.R_after (ok := (fun k_ => some k_ ≠ (v342 : Value).ownBlock ∧ some k_ ≠ (.slice Ao25 y344.length co25 : Value).ownBlock)) (by (with_reducible repeat (first | apply Kd.R_alloc | apply Kd.R_drewN | apply Kd.R_drew)); exact Kd.R_mono HO340.out (fun _ hk => ⟨⟨hk.1, hk.2.1⟩, hk.2.2⟩)) hg hat)
   have n2_ := Aside0.mk (Kd.R_after (ok := (fun k_ => some k_ ≠ (v339 : Value).ownBlock ∧ some k_ ≠ (.slice Ao25 y344.length co25 : Value).ownBlock)) (by (with_reducible repeat (first | apply Kd.R_alloc | apply Kd.R_drewN | apply Kd.R_drew)); exact Kd.R_mono HO343.out (fun _ hk => ⟨⟨hk.1, hk.2.1⟩, hk.2.2⟩)) hg hat)
   have n3_ := Aside0.mk (Kd.R_after (ok := (fun k_ => some k_ ≠ (v339 : Value).ownBlock ∧ some k_ ≠ (v342 : Value).ownBlock)) (by (with_reducible repeat (first | apply Kd.R_alloc | apply Kd.R_drewN | apply Kd.R_drew)); exact Kd.R_mono HO346.out (fun _ hk => ⟨⟨hk.1, hk.2.1⟩, hk.2.2⟩)) hg hat)
   have n4_ := Aside0.mk (below_weaken (by repeat (first | (with_reducible first | exact HB.out | apply below_alloc | apply pw_below_drewN | apply below_drew1 | refine below_set ?_ (IsS144.ge HI1.out)) | exact HB.out)) HL.out hb)
   have n5_ := Aside0.mk (KeepBut.trans (by repeat (first | (with_reducible first | exact HK.out | apply KeepBut.set_ | apply keep_drewN | apply keep_drew | apply keep_alloc) | exact HK.out)) (KeepBut.of_grown hg g) (Kd.R_base2 HO_7.out))
   have n6_ := Aside0.mk (ho)
   clear HI1
   clear HO340
   clear HO343
   clear HO346
   clear HB
   clear HK
   clear HO_7
   have HI1 := n0_
   have HO340 := n1_
   have HO343 := n2_
   have HO346 := n3_
   have HB := n4_
   have HK := n5_
   have HO349 := n6_
   clear n0_ n1_ n2_ n3_ n4_ n5_ n6_
   clear ho hb hg hat
   refine hK.out _ _ ⟨(by obtain ⟨HG_, hg_⟩ := HI1.out; exact cellS144_0 HG_), (by obtain ⟨HG_, hg_⟩ := HI1.out; exact cellS144_1 HG_), (by obtain ⟨HG_, hg_⟩ := HI1.out; exact cellS144_2 HG_), (by obtain ⟨HG_, hg_⟩ := HI1.out; exact cellS144_3 HG_)⟩ (fun hHeld => ?_)
   clear hK K
   refine norm_ (a' := ?_) ?_ ?_
   rotate_left
   ·show Act.put _ (some 34) _ = _
    simp only [Act.put, List.setIfInBounds_toArray, List.set_cons_zero, List.set_cons_succ, i64_w, i32_w]
    rfl
   refine pure_ (i := 14) (N := some 6) (v := ?_) (a' := ?_) x7a17 rfl rfl (any_of HT_.out (by kernel_rfl)) (fun _ _ _ h => h) (Or.inl ⟨by rfl, ?_⟩) ?_ ?_; rotate_left; (intro w'; go_simp; with_reducible rfl); rotate_left; exact xE
   refine pure_ (i := 15) (N := some 7) (v := ?_) (a' := ?_) x7a18 rfl rfl (any_of HT_.out (by kernel_rfl)) (fun _ _ _ h => h) (Or.inl ⟨by rfl, ?_⟩) ?_ ?_; rotate_left; (intro w'; go_simp; with_reducible rfl); rotate_left; exact xE
   refine done_ (done_of HT_.out (by kernel_rfl)) ?_
   try go_wp2
   go_roundg k1
   case measure => have := HK1.out; omega
   case rel => exact ⟨(y341), (y347), (wrap64 (x14_1 + 1)), (t334), (t335), (t336), (t337), (by first | rfl | (simp; done) | (simp [*]; done)), H', ⟨by have := HK1.out; omega⟩, ⟨by (with_reducible repeat (first | apply Kd.R_alloc | apply Kd.R_drewN | apply Kd.R_drew)); exact Kd.R_mono HO343.out (fun _ hk => hk.2)⟩, ⟨by (with_reducible repeat (first | apply Kd.R_alloc | apply Kd.R_drewN | apply Kd.R_drew)); exact Kd.R_mono HO349.out (fun _ hk => hk.2.1)⟩, ⟨by repeat (first | (with_reducible first | exact HI1.out | apply IsS144.alloc | apply IsS144.drewN | apply IsS144.drew | apply IsS144.set_0 | apply IsS144.set_1 | apply IsS144.set_2 | apply IsS144.set_3) | exact HI1.out)⟩, ⟨by repeat (first | (with_reducible first | exact HK.out | apply KeepBut.set_ | apply keep_drewN | apply keep_drew | apply keep_alloc) | exact HK.out)⟩, ⟨by repeat (first | (with_reducible first | exact HB.out | apply below_alloc | apply pw_below_drewN | apply below_drew1 | refine below_set ?_ (IsS144.ge HI1.out)) | exact HB.out)⟩⟩
/-! ### impl_StepValues: function 45 -/
def impl_StepValues.j0 : Nat → List Int → Int → Bool → Option (List Int × Bool)
 | 0, _, _, _ => none
 | k + 1, x0, x1, x15 => if x15 = true then (some (([] : List Int), false)) else ((impl_decoded.f k x0 0 x1 0 false).bind fun bt353 => ((impl_told.f k bt353.2.1).bind fun bt363 => (some (bt363.1, bt363.2))))
def impl_StepValues.f (k : Nat) (l0 : List Int) (a1 : Int) : Option (List Int × Bool) := (impl_areBits.f k l0).bind fun t350 => (if t350 = true then ((impl_isStep.f a1).bind fun t351 => (impl_StepValues.j0 k l0 a1 (!t351))) else (impl_StepValues.j0 k l0 a1 true))
theorem impl_StepValues.mono_l : ∀ k, (∀ y0 y1 y2, LeO (impl_StepValues.j0 k y0 y1 y2) (impl_StepValues.j0 (k + 1) y0 y1 y2))
 | 0 => fun _ _ _ r h => by simp [impl_StepValues.j0] at h
 | k + 1 => by
  have ih0 := impl_StepValues.mono_l k
  ·intro y0 y1 y2
   unfold impl_StepValues.j0
   repeat' first
   | (with_reducible exact ih0 _ _ _)
   | (with_reducible exact impl_areBits.mono _ _)
   | (with_reducible exact impl_decoded.mono _ _ _ _ _ _)
   | (with_reducible exact impl_told.mono _ _)
   | (with_reducible exact LeO.refl _)
   | (with_reducible exact LeO.none _)
   | (with_reducible refine LeO.ite ?_ ?_)
   | (with_reducible refine LeO.bind ?_ (fun _ => ?_))
   | exact ih0 _ _ _
   | exact impl_areBits.mono _ _
   | exact impl_decoded.mono _ _ _ _ _ _
   | exact impl_told.mono _ _
   | exact LeO.none _
   | refine LeO.ite ?_ ?_
   | refine LeO.bind ?_ (fun _ => ?_)
theorem impl_StepValues.mono : ∀ a0 a1 k, LeO (impl_StepValues.f k a0 a1) (impl_StepValues.f (k + 1) a0 a1) := by
 intro a0 a1 k
 have ih0 := impl_StepValues.mono_l k
 unfold impl_StepValues.f
 repeat' first
   | (with_reducible exact ih0 _ _ _)
   | (with_reducible exact impl_areBits.mono _ _)
   | (with_reducible exact impl_decoded.mono _ _ _ _ _ _)
   | (with_reducible exact impl_told.mono _ _)
   | (with_reducible exact LeO.refl _)
   | (with_reducible exact LeO.none _)
   | (with_reducible refine LeO.ite ?_ ?_)
   | (with_reducible refine LeO.bind ?_ (fun _ => ?_))
   | exact ih0 _ _ _
   | exact impl_areBits.mono _ _
   | exact impl_decoded.mono _ _ _ _ _ _
   | exact impl_told.mono _ _
   | exact LeO.none _
   | refine LeO.ite ?_ ?_
   | refine LeO.bind ?_ (fun _ => ?_)
set_option maxHeartbeats 8000000 in
set_option maxRecDepth 100000 in
theorem impl_StepValues.calls (k : Nat) (A0 : Option Addr) (c0 : Nat) (l0 : List Int) (a1 : Int) (r1 : List Int) (r2 : Bool) (w : World) (hr0 : Kd.C (Kd.int .i64) w A0 l0.length l0) (hc0 : l0.length ≤ c0) (h : impl_StepValues.f k l0 a1 = some (r1, r2)) :
  Calls Try.prog 45 #[.slice A0 l0.length c0, .int .i64 a1] w fun e w' => ∃ v0_ : Value, e = .returned (.tuple #[v0_, .bool r2]) ∧ Kd.R (Kd.int .i64) 3 w' w.heap.size (fun _ => True) v0_ r1 ∧ Below w.heap.size w w' := by
 have hu144 := Try.underlying144
 have HR0 := Aside0.mk hr0
 have HC0 := Aside0.mk hc0
 clear hr0 hc0
 have HB := Aside0.mk (Below.refl w.heap.size w)
 have H : ((impl_areBits.f k l0).bind fun t350 => (if t350 = true then ((impl_isStep.f a1).bind fun t351 => (impl_StepValues.j0 k l0 a1 (!t351))) else (impl_StepValues.j0 k l0 a1 true))) = some (r1, r2) := h
 clear h
 have HC3 := Aside0.mk H
 clear H
 go_enter Try.func45, Try.ntmps45
 go_upto_region 1 with (fail)
 go_cut [15] (fun v15 wc => ∃ (kq : Nat) (x15_2 : Bool), v15 = .bool x15_2 ∧ Aside0 (impl_StepValues.j0 kq l0 a1 x15_2 = some (r1, r2)) ∧ Aside0 (kq ≤ k) ∧ Aside0 (Below w.heap.size w wc))
 case first => as_aux_lemma =>
  have H := HC3.out
  clear HC3
  replace H := Option.bind_eq_some_iff.mp H
  obtain ⟨t350, A40, H⟩ := H
  (try dsimp only at H)
  have A4 := Aside0.mk A40
  clear A40
  by_cases c5 : t350 = true
  rotate_left
  ·replace c5 := Bool.eq_false_iff.mpr c5
   subst c5
   have H1 := H
   rw [if_neg (show ¬ (false = true) by decide)] at H1
   clear H
   have H := H1
   clear H1
   have H' := Aside0.mk H
   clear H
   go_wp2_with (first | ((with_reducible refine gate_callee (f := 245) rfl ?_); refine goesL_ (some 9) rfl rfl Try.func245 (by kernel_rfl) rfl #[.slice A0 l0.length c0] rfl (by (try simp only [List.map_toArray, List.map_cons, List.map_nil]); first | done | rfl | (simp only [List.length_drop, List.length_take]; rfl)) ?_; (with_reducible refine (impl_areBits.calls k _ _ l0 false _ ?side1 ?side2 A4.out).mono ?_); (case side1 => exact xC (Kd.C_below HR0.out HB.out)); (case side2 => exact HC0.out); rintro e w' ⟨rfl, ⟨nd, rfl⟩⟩; refine ⟨_, rfl, ?_⟩))
   go_meet
   case rel => exact ⟨_, (true), (by first | rfl | (simp; done) | (simp [*]; done)), H', ⟨by first | omega | exact Nat.le_refl _⟩, ⟨xB HB.out⟩⟩
  subst c5
  have H1 := H
  rw [if_pos rfl] at H1
  clear H
  have H := H1
  clear H1
  replace H := Option.bind_eq_some_iff.mp H
  obtain ⟨t351, A60, H⟩ := H
  (try dsimp only at H)
  have A6 := Aside0.mk A60
  clear A60
  have H' := Aside0.mk H
  clear H
  go_wp2_with (first | ((with_reducible refine gate_callee (f := 245) rfl ?_); refine goesL_ (some 9) rfl rfl Try.func245 (by kernel_rfl) rfl #[.slice A0 l0.length c0] rfl (by (try simp only [List.map_toArray, List.map_cons, List.map_nil]); first | done | rfl | (simp only [List.length_drop, List.length_take]; rfl)) ?_; (with_reducible refine (impl_areBits.calls k _ _ l0 true _ ?side1 ?side2 A4.out).mono ?_); (case side1 => exact xC (Kd.C_below HR0.out HB.out)); (case side2 => exact HC0.out); rintro e w' ⟨rfl, ⟨nd, rfl⟩⟩; refine ⟨_, rfl, ?_⟩) | (go_at_call 234; (with_reducible refine (impl_isStep.calls a1 t351 _ A6.out).mono ?_); rintro e w' ⟨rfl, ⟨nd, rfl⟩⟩))
  go_meet
  case rel => exact ⟨_, (!t351), (by first | rfl | (simp; done) | (simp [*]; done)), H', ⟨by first | omega | exact Nat.le_refl _⟩, ⟨xB HB.out⟩⟩
 case rest => as_aux_lemma =>
  clear HC3
  obtain ⟨kq, x15_2, rfl, HA, HJ2, HB⟩ := hcut
  cases kq with
  | zero => exact absurd HA.out (by simp [impl_StepValues.j0])
  | succ kj2 =>
   have H := HA.out
   clear HA
   simp only [impl_StepValues.j0] at H
   by_cases c7 : x15_2 = true
   ·subst c7
    have H1 := H
    rw [if_pos rfl] at H1
    clear H
    have H := H1
    clear H1
    simp only [Option.some.injEq, Prod.mk.injEq] at H
    obtain ⟨rfl, rfl⟩ := H
    go_wp2
    go_ret2
    exact ⟨_, by first | rfl | (simp [errW_none, errW_some] <;> rfl) | (simp [*, errW_none, errW_some] <;> rfl), by first | exact Kd.R_nil _ _ _ _ _ | exact Kd.N_nil _ _ _ _ _ | exact Kd.V_nil _ _ _ _ _ | exact Kd.Q_nil _ _ _ _ _ | exact Kd.S_nil _ _ _ _ _, xB HB.out⟩
   replace c7 := Bool.eq_false_iff.mpr c7
   subst c7
   have H1 := H
   rw [if_neg (show ¬ (false = true) by decide)] at H1
   clear H
   have H := H1
   clear H1
   replace H := Option.bind_eq_some_iff.mp H
   obtain ⟨⟨t353, t356, t359, t360, t361, t362⟩, A80, H⟩ := H
   (try dsimp only at H)
   have A8 := Aside0.mk A80
   clear A80
   replace H := Option.bind_eq_some_iff.mp H
   obtain ⟨⟨t363, t366⟩, A90, H⟩ := H
   (try dsimp only at H)
   have A9 := Aside0.mk A90
   clear A90
   simp only [Option.some.injEq, Prod.mk.injEq] at H
   obtain ⟨rfl, rfl⟩ := H
   go_wp2_with (first | ((with_reducible refine gate_dst (N := 20) rfl ?_); refine box_event ?hg (N := 20) ?hd (cs := #[.int .i64 0, .int .i64 a1, .int .i64 0, .bool false]) (t := 144) ?hr ?_; (case hd => rfl); (case hg => rfl); (case hr => first | (go_simp; done) | (go_simp; rfl)); intro gb352 hg w10 hbox hb; have n0_ := Aside0.mk (below_step (xB HB.out) hb); have n1_ := Aside0.mk ((show IsS144 w _ gb352 0 a1 0 false from ⟨hbox, (by rw [hg]; exact (below_size (xB HB.out)) : w.heap.size ≤ gb352)⟩)); clear HB; have HB := n0_; have HI352 := n1_; clear n0_ n1_; clear hb hbox hg) | ((with_reducible refine gate_callee (f := 246) rfl ?_); refine goesL_ (some 21) rfl rfl Try.func246 (by kernel_rfl) rfl #[.slice A0 l0.length c0, .pointer (some ⟨gb352, 0, none⟩)] rfl (by (try simp only [List.map_toArray, List.map_cons, List.map_nil]); first | done | rfl | (simp only [List.length_drop, List.length_take]; rfl)) ?_; (with_reducible refine (impl_decoded.calls kj2 _ _ l0 gb352 0 a1 0 false t353 t356 t359 t360 t361 t362 w _ ?side1 ?side2 ?side3 ?side4 ?side5 A8.out).mono ?_); (case side1 => repeat (first | (with_reducible first | exact HI352.out | apply IsS144.alloc | apply IsS144.drewN | apply IsS144.drew | apply IsS144.set_0 | apply IsS144.set_1 | apply IsS144.set_2 | apply IsS144.set_3) | exact HI352.out)); (case side2 => repeat (first | (with_reducible first | exact HB.out | apply below_alloc | apply pw_below_drewN | apply below_drew1 | refine below_set ?_ (IsS144.ge HI352.out)) | exact HB.out)); (case side3 => exact xC (Kd.C_below HR0.out HB.out)); (case side4 => exact HC0.out); (case side5 => exact Kd.far_C 0 HR0.out (IsS144.ge HI352.out)); rintro e w11 ⟨v354, v357, rfl, ho0, ho1, hi, hb, hk⟩; refine ⟨_, rfl, ?_⟩; have n0_ := Aside0.mk (Kd.R_lower ho0 (below_size (by repeat (first | (with_reducible first | exact HB.out | apply below_alloc | apply pw_below_drewN | apply below_drew1 | refine below_set ?_ (IsS144.ge HI352.out)) | exact HB.out)))); have n1_ := Aside0.mk (Kd.R_lower ho1 (below_size (by repeat (first | (with_reducible first | exact HB.out | apply below_alloc | apply pw_below_drewN | apply below_drew1 | refine below_set ?_ (IsS144.ge HI352.out)) | exact HB.out)))); have n2_ := Aside0.mk (hb); have n3_ := Aside0.mk (hi); clear HB; clear HI352; have HO355 := n0_; have HO358 := n1_; have HB := n2_; have HI352 := n3_; clear n0_ n1_ n2_ n3_; (try clear hb); (try clear hb2); (try clear hk); (try clear hi); (try clear ho0); (try clear ho1); obtain ⟨Ao12, co12, eo12⟩ := Kd.R_slice HO358.out; subst eo12) | ((with_reducible refine gate_callee (f := 239) rfl ?_); refine goesL_ (some 25) rfl rfl Try.func239 (by kernel_rfl) rfl #[.slice Ao12 t356.length co12] rfl (by (try simp only [List.map_toArray, List.map_cons, List.map_nil]); first | done | rfl | (simp only [List.length_drop, List.length_take]; rfl)) ?_; (with_reducible refine (impl_told.calls kj2 (fun k_ => some k_ = (.slice Ao12 t356.length co12 : Value).ownBlock) (.slice Ao12 t356.length co12) t356 t363 t366 w _ ?side1 ?side2 A9.out).mono ?_); (case side1 => repeat (first | (with_reducible first | exact HB.out | apply below_alloc | apply pw_below_drewN | apply below_drew1 | refine below_set ?_ (IsS144.ge HI352.out)) | exact HB.out)); (case side2 => exact Kd.R_tight rfl HO358.out); rintro e w13 ⟨v364, rfl, ho0, hb, hkp⟩; refine ⟨_, rfl, ?_⟩; have n0_ := Aside0.mk (IsS144.kept (by repeat (first | (with_reducible first | exact HI352.out | apply IsS144.alloc | apply IsS144.drewN | apply IsS144.drew | apply IsS144.set_0 | apply IsS144.set_1 | apply IsS144.set_2 | apply IsS144.set_3) | exact HI352.out)) hkp (fun hs_ => (fun e_ => (IsS144.own_ne HI352.out HO358.out (by decide)) e_) hs_)); have n1_ := Aside0.mk (Kd.R_mono (ok' := fun k_ => some k_ ≠ (v364 : Value).ownBlock) (Kd.R_keptB (HO355.out) hkp (fun k_ hk_ hs_ => (hk_) hs_)) (fun k_ hk_ => fun e_ => Or.elim (ho0.1 k_ e_.symm) (fun hs_ => hk_.2.1 hs_) (fun hn_ => Nat.not_le.2 hk_.2.2 hn_))); have n2_ := Aside0.mk (Kd.R_mono (ok' := fun k_ => some k_ ≠ (v354 : Value).ownBlock) ho0 (fun k_ hk_ => Or.elim hk_ (fun hs_ => fun e_ => (((HO355.out).1 k_ e_.symm)) hs_) (fun hn_ => (Kd.fresh' (Kd.R_lt (xR HO355.out)) k_ hn_)))); have n3_ := Aside0.mk (hb); clear HI352; clear HO355; clear HB; clear HO358; have HI352 := n0_; have HO355 := n1_; have HO365 := n2_; have HB := n3_; clear n0_ n1_ n2_ n3_; (try clear hb); (try clear hkp); (try clear ho0)))
   go_ret2
   exact ⟨_, by first | rfl | (simp [errW_none, errW_some] <;> rfl) | (simp [*, errW_none, errW_some] <;> rfl), by (with_reducible repeat (first | apply Kd.R_alloc | apply Kd.R_drewN | apply Kd.R_drew)); exact Kd.R_mono HO365.out (fun _ hk => trivial), by repeat (first | (with_reducible first | exact HB.out | apply below_alloc | apply pw_below_drewN | apply below_drew1 | refine below_set ?_ (IsS144.ge HI352.out)) | exact HB.out)⟩

/-! ### laws_uAbs: function 46 -/
def laws_uAbs.f (a0 : Int) : Option (Int) := if a0 < 0 then (some (wrap64 (-a0))) else (some a0)
set_option maxHeartbeats 8000000 in
set_option maxRecDepth 100000 in
theorem laws_uAbs.calls (a0 : Int) (r : Int) (w : World) (h : laws_uAbs.f a0 = some r) :
  Calls Try.prog 46 #[.int .i64 a0] w fun e w' => e = .returned (.int .i64 r) ∧ Drawn0 w w' := by
 have H : (if a0 < 0 then (some (wrap64 (-a0))) else (some a0)) = some r := h
 clear h
 by_cases c2 : a0 < 0
 ·rw [if_pos c2] at H
  have c2b0 : decide (a0 < 0) = true := decide_eq_true c2
  clear c2
  obtain rfl := Option.some.inj H
  go_enter Try.func46, Try.ntmps46
  go_wp2
  go_ret
  exact ⟨by first | rfl | (simp; done) | (simp [*]; done), by repeat (first | exact Drawn0.refl _ | apply Drawn0.step)⟩
 rw [if_neg c2] at H
 have c2b0 : decide (a0 < 0) = false := decide_eq_false c2
 clear c2
 obtain rfl := Option.some.inj H
 go_enter Try.func46, Try.ntmps46
 go_wp2
 go_ret
 exact ⟨by first | rfl | (simp; done) | (simp [*]; done), by repeat (first | exact Drawn0.refl _ | apply Drawn0.step)⟩

end Go.Proofs.Ytjplcongellcmaa.PFnStepsAdapt
