/- What each Go function that the statement FnExactCountOutputs reaches answers, proved call by call. No condition beyond those that the theorems print. (Written by wip/tools/xprint.py of this repo, over the kit's print.) -/
import Derived.Test.YtjplcongellcmaaDoorPFnExactCountOutputsx0
import Derived.Test.YtjplcongellcmaaDoorPFnExactCountOutputsx5
namespace Go.Proofs.YtjplcongellcmaaDoor.PFnExactCountOutputs
open Go.RowKit Go.Proofs.YtjplcongellcmaaDoorW.PrintWords Go.Proofs.YtjplcongellcmaaDoorW.PrintLast Go.Proofs.YtjplcongellcmaaDoorW.PrintMore
attribute [local go_sem] max2_int min2_int max_two min_two max_three min_three max_four min_four   -- for this text's walks alone
set_option linter.unusedVariables false
set_option linter.unusedSimpArgs false

/-! ### slices_Contains_int_int: function 86 -/
def slices_Contains_int_int.f (k : Nat) (l0 : List Int) (a1 : Int) : Option (Bool) := (slices_Index_int_int.f k l0 a1).bind fun t249 => (some (decide (t249 ≥ 0)))
theorem slices_Contains_int_int.mono : ∀ a0 a1 k, LeO (slices_Contains_int_int.f k a0 a1) (slices_Contains_int_int.f (k + 1) a0 a1) := by
 intro a0 a1 k
 have m0 := @slices_Index_int_int.mono
 unfold slices_Contains_int_int.f
 exact xM
set_option maxHeartbeats 200000000 in
set_option maxRecDepth 100000 in
theorem slices_Contains_int_int.calls (k : Nat) (A0 : Option Addr) (c0 : Nat) (l0 : List Int) (a1 : Int) (r : Bool) (w : World) (hr0 : Kd.C (Kd.int .i64) w A0 l0.length l0) (hc0 : l0.length ≤ c0) (h : slices_Contains_int_int.f k l0 a1 = some r) :
  Calls Tryd.prog 86 #[.slice A0 l0.length c0, .int .i64 a1] w fun e w' => e = .returned (.bool r) ∧ Drawn0 w w' := by
 have HR0 := xA hr0
 have HC0 := xA hc0
 clear hr0 hc0
 have H : ((slices_Index_int_int.f k l0 a1).bind fun t249 => (some (decide (t249 ≥ 0)))) = some r := h
 clear h
 obtain ⟨t249, A3, H⟩ := xO H
 (try dsimp only at H)
 obtain rfl := Option.some.inj H
 go_enter Tryd.func86, Tryd.ntmps86
 go_wp2_with (first | (refine xG (some 7) Tryd.func43 #[.slice A0 l0.length c0, .int .i64 a1] ?_; (with_reducible refine (slices_Index_int_int.calls k _ _ l0 a1 t249 _ ?side1 ?side2 A3.out).mono ?_); (case side1 => exact xC HR0.out); (case side2 => exact HC0.out); rintro e w' ⟨rfl, ⟨nd, rfl⟩⟩; refine ⟨_, rfl, ?_⟩))
 go_ret
 exact ⟨by first | rfl | (simp; done) | (simp [*]; done), by repeat (first | exact Drawn0.refl _ | apply Drawn0.step)⟩

/-! ### slices_Clone_int_int: function 87 -/
theorem x_equalIn_nil {P : Program} (w : World) (d : Nat) (t e : TypeId) (a : Option Addr) (n c n' c' : Nat) (h : P.underlying t = some (.slice e)) :
  (Op.equalIn (d + 1) t (.slice a n c) (.slice none n' c')).run P w = .ok a.isNone w := by
 cases a <;> simp [Op.equalIn, run_underlying h]
theorem x_eql_nil {P : Program} (w : World) (t e : TypeId) (a : Option Addr) (n c n' c' : Nat) (h : P.underlying t = some (.slice e)) :
  (binOp .eql t (.slice a n c) (.slice none n' c')).run P w = .ok (.bool a.isNone) w := by
 simp only [binOp]
 simp [Op.equal, Op.maxDepth, x_equalIn_nil w 9999 t e a n c n' c' h]
def slices_Clone_int_int.f (l0 : List Int) : Option (List Int) := (some (([] : List Int) : List Int)).bind fun y250 => (if y250.length + l0.length < 17592186044416 then (some (y250 ++ l0)) else (none))
set_option maxHeartbeats 200000000 in
set_option maxRecDepth 100000 in
theorem slices_Clone_int_int.calls (A0 : Option Addr) (c0 : Nat) (l0 : List Int) (r : List Int) (w : World) (hr0 : Kd.C (Kd.int .i64) w A0 l0.length l0) (hc0 : l0.length ≤ c0) (h : slices_Clone_int_int.f l0 = some r) :
  Calls Tryd.prog 87 #[.slice A0 l0.length c0] w fun e w' => ∃ v0_ : Value, e = .returned (v0_) ∧ Kd.R (Kd.int .i64) 3 w' w.heap.size (fun _ => True) v0_ r ∧ Below w.heap.size w w' := by
 have HR0 := xA hr0
 have HC0 := xA hc0
 clear hr0 hc0
 have HB := xA (Below.refl w.heap.size w)
 have H : ((some (([] : List Int) : List Int)).bind fun y250 => (if y250.length + l0.length < 17592186044416 then (some (y250 ++ l0)) else (none))) = some r := h
 clear h
 obtain ⟨y250, hy250⟩ : ∃ y_ : List Int, y_ = (([] : List Int)) := ⟨_, rfl⟩
 replace H : (if y250.length + l0.length < 17592186044416 then (some (y250 ++ l0)) else (none)) = some r := by first | (rw [hy250]; with_reducible exact H) | (have H2_ := (Option.bind_some _ _).symm.trans H; rw [hy250]; with_reducible exact H2_) | (have H2_ := (Option.bind_some _ _).symm.trans H; with_reducible exact H2_) | with_reducible exact H | (rw [hy250]; exact H) | exact H
 have Ny250 := xA hy250
 clear hy250
 by_cases c2 : y250.length + l0.length < 17592186044416
 rotate_left
 ·rw [if_neg c2] at H
  exact absurd H (by simp)

 rw [if_pos c2] at H
 have LMc2 := xA c2
 clear c2
 obtain ⟨y253, hy253⟩ : ∃ y_ : List Int, y_ = (y250 ++ l0) := ⟨_, rfl⟩
 replace H : (some y253) = some r := by first | (rw [hy253]; with_reducible exact H) | (have H2_ := (Option.bind_some _ _).symm.trans H; rw [hy253]; with_reducible exact H2_) | (have H2_ := (Option.bind_some _ _).symm.trans H; with_reducible exact H2_) | with_reducible exact H | (rw [hy253]; exact H) | exact H
 have Ny253 := xA hy253
 clear hy253
 obtain rfl := Option.some.inj H
 cases A0 with
 | none =>
  have hl_ : l0 = [] := by
   rcases l0 with _ | ⟨z_, zs_⟩
   ·rfl
   ·obtain ⟨ad_, h_, _⟩ := HR0.out.2.2 (by simp)
    cases h_
  have hy_ : y253 = [] := by rw [Ny253.out, Ny250.out, hl_]; rfl
  rw [hy_]
  go_enter Tryd.func87, Tryd.ntmps87
  go_wp2
  rw [x_eql_nil w 24 3 none _ _ _ _ Tryd.underlying24]
  go_wp2
  go_ret
  exact ⟨_, rfl, Kd.R_nil _ _ _ _ _, HB.out⟩
 | some a0_ =>
  go_enter Tryd.func87, Tryd.ntmps87
  go_wp2
  rw [x_eql_nil w 24 3 (some a0_) _ _ _ _ Tryd.underlying24]
  go_wp2_with (first | ((with_reducible refine gate_dst (N := 5) rfl ?_); refine Kd.R_lit (Kd.int .i64) _ 3 ?hg (N := 5) ?hd (xs := ([] : List Int)) (inner := []) (ok := fun _ => True) (okp := fun _ => True) ?hr ?hp (fun _ hk => hk) trivial (Below.refl _ _) (Nat.le_refl _) (by simp) ?_; (case hd => rfl); (case hg => rfl); (case hr => first | (go_simp; done) | (go_simp; rfl)); (case hp => exact (Reps.none _ _)); intro v251 w3 ho4 hb hg_ hnew_; clear hg_ hnew_; (first | rw [← Ny250.out] at ho4 | (simp only [Int.reduceToNat] at ho4; rw [← Ny250.out] at ho4)); have HO252 := xA (Kd.R_lower ho4 (below_size (xB HB.out))); replace HB := xA (below_step (xB HB.out) hb); clear hb ho4) | ((with_reducible refine gate_builtin (b := .append) (xs := #[.tmp 5, .tmp 6]) rfl ?_); at_builtin; refine Kd.R_append_rows (Kd.int .i64) (w0 := w) w.heap.size rfl (.tmp 5) (.tmp 6) 24 3 (.int .i64 0) 8 rfl Tryd.underlying24 info3 rfl (by decide) (by omega) v251 y250 l0 _ _ _ (fun _ => True) (fun _ => False) rfl rfl ?aO ?aR (fun _ _ h => h) (fun _ h => h.elim) ?aF ?aB ?aS ?aL ?_; (case aR => exact xC (Kd.C_below HR0.out HB.out)); (case aB => exact (xB HB.out)); (case aF => exact (fun _ _ => trivial)); (case aO => exact (xR HO252.out)); (case aS => exact (below_size (xB HB.out))); (case aL => have := LMc2.out; omega); intro v254 w5 ho hb hg hat; rw [← Ny253.out] at ho; replace HB := xA (hb); have HO255 := xA (ho); clear HO252; clear ho hb hg hat))
  go_ret
  exact ⟨_, xr, xR HO255.out, xB HB.out⟩
/-! ### impl_orders: function 66 -/
mutual
def impl_orders.l0 : Nat → Int → List (List Int) → Int → Int → Option ((List (List Int)))
 | 0, _, _, _, _ => none
 | k + 1, x0, x3, x10, x11 => if x11 < x10 then (impl_orders.l1 k x0 (([] : List (List Int))) x10 x11 x3 (x3.length : Int) 0) else (some x3)
def impl_orders.l1 : Nat → Int → List (List Int) → Int → Int → List (List Int) → Int → Int → Option ((List (List Int)))
 | 0, _, _, _, _, _, _, _ => none
 | k + 1, x0, x4, x10, x11, x14, x15, x16 => if x16 < x15 then (if 0 ≤ x16 then (if x16 < (x14.length : Int) then (impl_orders.l2 k x0 x4 (rd_L6 x14 x16) x10 x11 x14 x15 x16 x0 0) else (none)) else (none)) else (impl_orders.l0 k x0 x4 x10 (wrap64 (x11 + 1)))
def impl_orders.l2 : Nat → Int → List (List Int) → List Int → Int → Int → List (List Int) → Int → Int → Int → Int → Option ((List (List Int)))
 | 0, _, _, _, _, _, _, _, _, _, _ => none
 | k + 1, x0, x4, x6, x10, x11, x14, x15, x16, x20, x21 => if x21 < x20 then ((slices_Contains_int_int.f k x6 x21).bind fun t266 => (if t266 = true then (impl_orders.l2 k x0 x4 x6 x10 x11 x14 x15 x16 x20 (wrap64 (x21 + 1))) else ((slices_Clone_int_int.f x6).bind fun t267 => (if t267.length < 17592186044416 then (if x4.length < 5864062014805 then (impl_orders.l2 k x0 (x4 ++ [(t267 ++ [x21])]) x6 x10 x11 x14 x15 x16 x20 (wrap64 (x21 + 1))) else (none)) else (none))))) else (impl_orders.l1 k x0 x4 x10 x11 x14 x15 (wrap64 (x16 + 1)))
end
def impl_orders.f (k : Nat) (a0 : Int) : Option ((List (List Int))) := impl_orders.l0 k a0 (([(([] : List Int))] : List (List Int))) a0 0
theorem impl_orders.mono_l : ∀ k, (∀ y0 y1 y2 y3, LeO (impl_orders.l0 k y0 y1 y2 y3) (impl_orders.l0 (k + 1) y0 y1 y2 y3)) ∧ (∀ y0 y1 y2 y3 y4 y5 y6, LeO (impl_orders.l1 k y0 y1 y2 y3 y4 y5 y6) (impl_orders.l1 (k + 1) y0 y1 y2 y3 y4 y5 y6)) ∧ (∀ y0 y1 y2 y3 y4 y5 y6 y7 y8 y9, LeO (impl_orders.l2 k y0 y1 y2 y3 y4 y5 y6 y7 y8 y9) (impl_orders.l2 (k + 1) y0 y1 y2 y3 y4 y5 y6 y7 y8 y9))
 | 0 => ⟨fun _ _ _ _ r h => by simp [impl_orders.l0] at h, fun _ _ _ _ _ _ _ r h => by simp [impl_orders.l1] at h, fun _ _ _ _ _ _ _ _ _ _ r h => by simp [impl_orders.l2] at h⟩
 | k + 1 => by
  obtain ⟨ih0, ih1, ih2⟩ := impl_orders.mono_l k
  have m0 := @slices_Contains_int_int.mono
  refine ⟨?_, ?_, ?_⟩ <;> intros
  ·unfold impl_orders.l0; exact xM
  ·unfold impl_orders.l1; exact xM
  ·unfold impl_orders.l2; exact xM
theorem impl_orders.mono : ∀ a0 k, LeO (impl_orders.f k a0) (impl_orders.f (k + 1) a0) := by
 intro a0 k
 obtain ⟨ih0, ih1, ih2⟩ := impl_orders.mono_l k
 have m0 := @slices_Contains_int_int.mono
 unfold impl_orders.f
 exact xM
set_option maxHeartbeats 200000000 in
set_option maxRecDepth 100000 in
theorem impl_orders.calls (k : Nat) (a0 : Int) (r : List (List Int)) (w : World) (h : impl_orders.f k a0 = some r) :
  Calls Tryd.prog 66 #[.int .i64 a0] w fun e w' => ∃ v0_ : Value, e = .returned (v0_) ∧ Kd.S (Kd.slice 3 (Kd.int .i64)) 24 w' w.heap.size (fun _ => True) v0_ r ∧ Below w.heap.size w w' := by
 have HB := xA (Below.refl w.heap.size w)
 have H : (impl_orders.l0 k a0 (([(([] : List Int))] : List (List Int))) a0 0) = some r := h
 clear h
 obtain ⟨y256, hy256⟩ : ∃ y_ : List Int, y_ = (([] : List Int)) := ⟨_, rfl⟩
 replace H : (impl_orders.l0 k a0 (([y256] : List (List Int))) a0 0) = some r := by first | (rw [hy256]; with_reducible exact H) | (have H2_ := (Option.bind_some _ _).symm.trans H; rw [hy256]; with_reducible exact H2_) | (have H2_ := (Option.bind_some _ _).symm.trans H; with_reducible exact H2_) | with_reducible exact H | (rw [hy256]; exact H) | exact H
 have Ny256 := xA hy256
 clear hy256
 obtain ⟨y259, hy259⟩ : ∃ y_ : List (List Int), y_ = (([y256] : List (List Int))) := ⟨_, rfl⟩
 replace H : (impl_orders.l0 k a0 y259 a0 0) = some r := by first | (rw [hy259]; with_reducible exact H) | (have H2_ := (Option.bind_some _ _).symm.trans H; rw [hy259]; with_reducible exact H2_) | (have H2_ := (Option.bind_some _ _).symm.trans H; with_reducible exact H2_) | with_reducible exact H | (rw [hy259]; exact H) | exact H
 have Ny259 := xA hy259
 clear hy259
 have H' := xA H
 clear H
 go_enter Tryd.func66, Tryd.ntmps66
 go_wp2_with (first | ((with_reducible refine gate_dst (N := 8) rfl ?_); refine Kd.R_lit (Kd.int .i64) _ 3 ?hg (N := 8) ?hd (xs := ([] : List Int)) (inner := []) (ok := fun _ => True) (okp := fun _ => True) ?hr ?hp (fun _ hk => hk) trivial (Below.refl _ _) (Nat.le_refl _) (by simp) ?_; (case hd => rfl); (case hg => rfl); (case hr => first | (go_simp; done) | (go_simp; rfl)); (case hp => exact (Reps.none _ _)); intro v257 w2 ho3 hb hg_ hnew_; clear hg_ hnew_; (first | rw [← Ny256.out] at ho3 | (simp only [Int.reduceToNat] at ho3; rw [← Ny256.out] at ho3)); have HO258 := xA (Kd.R_lower ho3 (below_size (xB HB.out))); replace HB := xA (below_step (xB HB.out) hb); clear hb ho3; obtain ⟨Ao4, co4, eo4⟩ := Kd.R_slice HO258.out; subst eo4) | ((with_reducible refine gate_dst (N := 9) rfl ?_); refine Kd.S_lits (Kd.slice 3 (Kd.int .i64)) w.heap.size 24 ?hg (N := 9) ?hd (xs := ([y256] : List (List Int))) (inner := [.slice Ao4 y256.length co4]) (ok := fun _ => True) (fun j_ _ => j_ = 0) ?hr rfl ?hp (fun _ _ _ h1_ h2_ => h1_.trans h2_.symm) (fun _ _ _ => trivial) trivial (Below.refl _ _) (below_size (xB HB.out)) (by simp) ?_; (case hd => rfl); (case hg => rfl); (case hr => first | (go_simp; done) | (go_simp; rfl)); (case hp => (intro j_ x_ hx_; match j_, hx_ with | 0, hx_ => (obtain rfl := Option.some.inj hx_; exact (show Kd.M (Kd.slice 3 (Kd.int .i64)) _ _ _ y256 [.slice Ao4 y256.length co4] from ⟨_, rfl, Kd.R_mono (xR HO258.out) (fun _ _ => rfl)⟩)) | _ + 1, hx_ => simp at hx_)); intro v260 w5 ho6 hbx_ hg_ hnew_; have hb : Below _ _ w5 := ⟨hg_.1, hg_.2, hg_.3, hg_.4, fun i_ hi_ => hg_.5 i_ hi_ (by simp)⟩; clear hbx_ hg_ hnew_; (first | rw [← Ny259.out] at ho6 | (simp only [Int.reduceToNat] at ho6; rw [← Ny259.out] at ho6)); replace HB := xA (below_step (xB HB.out) hb); have HO261 := xA (ho6); clear HO258; clear hb ho6))
 go_loopg [3, 11] k (fun kq v3 v11 w' => ∃ (x3_1 : List (List Int)) (x11_1 : Int), v11 = .int .i64 x11_1 ∧ Aside0 (impl_orders.l0 kq a0 x3_1 a0 x11_1 = some r) ∧ Aside0 (kq ≤ k) ∧ Aside0 (Kd.S (Kd.slice 3 (Kd.int .i64)) 24 w' w.heap.size (fun _ => True) v3 x3_1) ∧ Aside0 (Below w.heap.size w w'))
 case atStart => exact ⟨(y259), (0), xs, H', ⟨Nat.le_refl _⟩, ⟨xS HO261.out⟩, ⟨xB HB.out⟩⟩
 case round =>
  clear H'
  obtain ⟨x3_1, x11_1, rfl, HA, HK1, HO_3, HB⟩ := hrel
  cases gk with
  | zero => exact absurd HA.out (by simp [impl_orders.l0])
  | succ k1 =>
   have H := HA.out
   clear HA
   simp only [impl_orders.l0] at H
   by_cases c7 : x11_1 < a0
   rotate_left
   ·rw [if_neg c7] at H
    have c7b0 : decide (x11_1 < a0) = false := decide_eq_false c7
    clear c7
    obtain rfl := Option.some.inj H
    go_wp2
    go_ret
    exact ⟨_, xr, xS HO_3.out, xB HB.out⟩

   rw [if_pos c7] at H
   have c7b0 : decide (x11_1 < a0) = true := decide_eq_true c7
   clear c7
   obtain ⟨y262, hy262⟩ : ∃ y_ : List (List Int), y_ = (([] : List (List Int))) := ⟨_, rfl⟩
   replace H : (impl_orders.l1 k1 a0 y262 a0 x11_1 x3_1 (x3_1.length : Int) 0) = some r := by first | (rw [hy262]; with_reducible exact H) | (have H2_ := (Option.bind_some _ _).symm.trans H; rw [hy262]; with_reducible exact H2_) | (have H2_ := (Option.bind_some _ _).symm.trans H; with_reducible exact H2_) | with_reducible exact H | (rw [hy262]; exact H) | exact H
   have Ny262 := xA hy262
   clear hy262
   have H' := xA H
   clear H
   go_wp2_with (first | ((with_reducible refine gate_dst (N := 13) rfl ?_); refine Kd.S_lit (Kd.slice 3 (Kd.int .i64)) _ 24 ?hg (N := 13) ?hd (xs := ([] : List (List Int))) (inner := []) (ok := fun _ => True) (okp := fun _ => True) ?hr ?hp (fun _ hk => hk) trivial (Below.refl _ _) (Nat.le_refl _) (by simp) ?_; (case hd => rfl); (case hg => rfl); (case hr => first | (go_simp; done) | (go_simp; rfl)); (case hp => exact (Reps.none _ _)); intro v263 w8 ho9 hb hg_ hnew_; clear hg_ hnew_; (first | rw [← Ny262.out] at ho9 | (simp only [Int.reduceToNat] at ho9; rw [← Ny262.out] at ho9)); have HO264 := xA (Kd.S_lower (Kd.S_new' ho9 (Kd.S_lt (xS HO_3.out))) (below_size (xB HB.out))); replace HO_3 := xA (Kd.S_elder' (xS HO_3.out) (Kd.S_base ho9) hb); replace HB := xA (below_step (xB HB.out) hb); clear hb ho9; obtain ⟨Ao10, co10, eo10⟩ := Kd.S_slice HO_3.out; subst eo10))
   go_loopg [4, 16] k1 (fun kq v4 v16 w' => ∃ (x4_2 : List (List Int)) (x16_2 : Int), v16 = .int .i64 x16_2 ∧ Aside0 (impl_orders.l1 kq a0 x4_2 a0 x11_1 x3_1 (x3_1.length : Int) x16_2 = some r) ∧ Aside0 (kq ≤ k1) ∧ Aside0 (Kd.S (Kd.slice 3 (Kd.int .i64)) 24 w' w.heap.size (fun k_ => some k_ ≠ ((.slice Ao10 x3_1.length co10) : Value).ownBlock) v4 x4_2) ∧ Aside0 (Kd.S (Kd.slice 3 (Kd.int .i64)) 24 w' w.heap.size (fun k_ => some k_ ≠ (v4 : Value).ownBlock) (.slice Ao10 x3_1.length co10) x3_1) ∧ Aside0 (Below w.heap.size w w'))
   case atStart => exact ⟨(y262), (0), xs, H', ⟨Nat.le_refl _⟩, ⟨by (with_reducible repeat (first | apply Kd.S_alloc | apply Kd.S_drewN | apply Kd.S_drew)); exact Kd.S_mono HO264.out (fun _ hk => hk.2)⟩, ⟨by (with_reducible repeat (first | apply Kd.S_alloc | apply Kd.S_drewN | apply Kd.S_drew)); exact Kd.S_mono HO_3.out (fun _ hk => hk.2)⟩, ⟨xB HB.out⟩⟩
   case round =>
    clear H'
    try clear c7b0
    obtain ⟨x4_2, x16_2, rfl, HA, HK2, HO_4, HO_14, HB⟩ := hrel
    cases gk with
    | zero => exact absurd HA.out (by simp [impl_orders.l1])
    | succ k2 =>
     have H := HA.out
     clear HA
     simp only [impl_orders.l1] at H
     by_cases c11 : x16_2 < (x3_1.length : Int)
     rotate_left
     ·rw [if_neg c11] at H
      have c11b0 : decide (x16_2 < (x3_1.length : Int)) = false := decide_eq_false c11
      clear c11
      have H' := xA H
      clear H
      go_wp2
      go_roundg k2
      case measure => have := HK1.out; have := HK2.out; omega
      case rel => exact ⟨(x4_2), (wrap64 (x11_1 + 1)), xs, H', ⟨by have := HK1.out; have := HK2.out; omega⟩, ⟨by (with_reducible repeat (first | apply Kd.S_alloc | apply Kd.S_drewN | apply Kd.S_drew)); exact Kd.S_mono HO_4.out (fun _ hk => trivial)⟩, ⟨xB HB.out⟩⟩
     rw [if_pos c11] at H
     have c11b0 : decide (x16_2 < (x3_1.length : Int)) = true := decide_eq_true c11
     clear c11
     by_cases c12 : 0 ≤ x16_2
     rotate_left
     ·rw [if_neg c12] at H
      exact absurd H (by simp)
     rw [if_pos c12] at H
     have c12b0 : decide (0 ≤ x16_2) = true := decide_eq_true c12
     clear c12
     by_cases c13 : x16_2 < (x3_1.length : Int)
     rotate_left
     ·rw [if_neg c13] at H
      exact absurd H (by simp)
     rw [if_pos c13] at H
     have c13b0 : decide (x16_2 < (x3_1.length : Int)) = true := decide_eq_true c13
     clear c13
     have H' := xA H
     clear H
     have p265 : 0 ≤ (x16_2 : Int) := of_decide_eq_true (by first | (with_reducible assumption) | assumption)
     have q265 : x16_2 < (x3_1.length : Int) := of_decide_eq_true (by first | (with_reducible assumption) | assumption)
     obtain ⟨ad265, A265_0, c265_0, e265, hx265_0, hl265_0, hi265_0⟩ := at_L6 (Kd.S_reads' HO_14.out).2.2 x16_2 p265 q265
     cases e265
     obtain ⟨ce265, hce265, hMe265, hcc265⟩ := Kd.S_get HO_14.out [] x16_2 p265 (by first | exact q265 | exact of_decide_eq_true (by first | (with_reducible assumption) | assumption) | (have e_ := (Kd.S_reads' HO_14.out).1; omega))
     obtain ⟨ve265_0, rfl, ge265_0⟩ := hMe265
     have hv265_0 := hcc265 0 _ rfl
     rw [Nat.add_zero, show ((Kd.slice 3 (Kd.int .i64))).sz = 1 from rfl, Nat.mul_one] at hv265_0
     replace hv265_0 := Option.some.inj (hv265_0.symm.trans hx265_0)
     rw [hv265_0] at ge265_0
     have HL265_0 := xA (show Kd.R (Kd.int .i64) 3 _ _ _ _ (rd_L6 x3_1 x16_2) from ge265_0)
     clear hv265_0 ge265_0
     clear hcc265 hce265
     have HR265_0 := xA hi265_0
     have HC265_0 := xA hl265_0
     clear hi265_0 hl265_0
     replace p265 := eq_true p265
     replace q265 := eq_true q265
     go_wp2
     go_loopg [4, 21] k2 (fun kq v4 v21 w' => ∃ (x4_3 : List (List Int)) (x21_3 : Int), v21 = .int .i64 x21_3 ∧ Aside0 (impl_orders.l2 kq a0 x4_3 (rd_L6 x3_1 x16_2) a0 x11_1 x3_1 (x3_1.length : Int) x16_2 a0 x21_3 = some r) ∧ Aside0 (kq ≤ k2) ∧ Aside0 (Kd.S (Kd.slice 3 (Kd.int .i64)) 24 w' w.heap.size (fun k_ => some k_ ≠ ((.slice (some ad265) x3_1.length co10) : Value).ownBlock) v4 x4_3) ∧ Aside0 (Kd.S (Kd.slice 3 (Kd.int .i64)) 24 w' w.heap.size (fun k_ => some k_ ≠ (v4 : Value).ownBlock) (.slice (some ad265) x3_1.length co10) x3_1) ∧ Aside0 (Below w.heap.size w w') ∧ Aside0 (Kd.R (Kd.int .i64) 3 w' w.heap.size (fun _ => True) (.slice A265_0 (rd_L6 x3_1 x16_2).length c265_0) (rd_L6 x3_1 x16_2)))
     case atStart => exact ⟨(x4_2), (0), xs, H', ⟨Nat.le_refl _⟩, ⟨xS HO_4.out⟩, ⟨xS HO_14.out⟩, ⟨xB HB.out⟩, ⟨Kd.R_mono (xR HL265_0.out) (fun _ _ => trivial)⟩⟩
     case round =>
      clear H'
      try clear c11b0
      try clear c12b0
      try clear c13b0
      try clear hx265_0
      try clear p265
      try clear q265
      obtain ⟨x4_3, x21_3, rfl, HA, HK3, HO_4, HO_14, HB, HL265_0⟩ := hrel
      have HR265_0 := xA (Kd.R_reads' HL265_0.out).2.2
      cases gk with
      | zero => exact absurd HA.out (by simp [impl_orders.l2])
      | succ k3 =>
       have H := HA.out
       clear HA
       simp only [impl_orders.l2] at H
       by_cases c14 : x21_3 < a0
       rotate_left
       ·rw [if_neg c14] at H
        have c14b0 : decide (x21_3 < a0) = false := decide_eq_false c14
        clear c14
        have H' := xA H
        clear H
        go_wp2
        go_roundg k3
        case measure => have := HK1.out; have := HK2.out; have := HK3.out; omega
        case rel => exact ⟨(x4_3), (wrap64 (x16_2 + 1)), xs, H', ⟨by have := HK1.out; have := HK2.out; have := HK3.out; omega⟩, ⟨xS HO_4.out⟩, ⟨xS HO_14.out⟩, ⟨xB HB.out⟩⟩
       rw [if_pos c14] at H
       have c14b0 : decide (x21_3 < a0) = true := decide_eq_true c14
       clear c14
       obtain ⟨t266, A15, H⟩ := xO H
       (try dsimp only at H)
       by_cases c16 : t266 = true
       ·subst c16
        rw [if_pos rfl] at H
        have H' := xA H
        clear H
        go_wp2_with (first | (refine xG (some 26) Tryd.func86 #[.slice A265_0 (rd_L6 x3_1 x16_2).length c265_0, .int .i64 x21_3] ?_; (with_reducible refine (slices_Contains_int_int.calls k3 _ _ (rd_L6 x3_1 x16_2) x21_3 true _ ?side1 ?side2 A15.out).mono ?_); (case side1 => exact xC HR265_0.out); (case side2 => exact HC265_0.out); rintro e w' ⟨rfl, ⟨nd, rfl⟩⟩; refine ⟨_, rfl, ?_⟩))
        go_roundg k3
        case measure => have := HK1.out; have := HK2.out; have := HK3.out; omega
        case rel => exact ⟨(x4_3), (wrap64 (x21_3 + 1)), xs, H', ⟨by have := HK1.out; have := HK2.out; have := HK3.out; omega⟩, ⟨xS HO_4.out⟩, ⟨xS HO_14.out⟩, ⟨xB HB.out⟩, ⟨Kd.R_mono (xR HL265_0.out) (fun _ _ => trivial)⟩⟩
       replace c16 := Bool.eq_false_iff.mpr c16
       subst c16
       rw [if_neg (show ¬ (false = true) by decide)] at H
       obtain ⟨t267, A17, H⟩ := xO H
       (try dsimp only at H)
       by_cases c18 : t267.length < 17592186044416
       rotate_left
       ·rw [if_neg c18] at H
        exact absurd H (by simp)
       rw [if_pos c18] at H
       have LMc18 := xA c18
       clear c18
       obtain ⟨y270, hy270⟩ : ∃ y_ : List Int, y_ = (t267 ++ [x21_3]) := ⟨_, rfl⟩
       replace H : (if x4_3.length < 5864062014805 then (impl_orders.l2 k3 a0 (x4_3 ++ [y270]) (rd_L6 x3_1 x16_2) a0 x11_1 x3_1 (x3_1.length : Int) x16_2 a0 (wrap64 (x21_3 + 1))) else (none)) = some r := by first | (rw [hy270]; with_reducible exact H) | (have H2_ := (Option.bind_some _ _).symm.trans H; rw [hy270]; with_reducible exact H2_) | (have H2_ := (Option.bind_some _ _).symm.trans H; with_reducible exact H2_) | with_reducible exact H | (rw [hy270]; exact H) | exact H
       have Ny270 := xA hy270
       clear hy270
       by_cases c19 : x4_3.length < 5864062014805
       rotate_left
       ·rw [if_neg c19] at H
        exact absurd H (by simp)
       rw [if_pos c19] at H
       have LMc19 := xA c19
       clear c19
       obtain ⟨y273, hy273⟩ : ∃ y_ : List (List Int), y_ = (x4_3 ++ [y270]) := ⟨_, rfl⟩
       replace H : (impl_orders.l2 k3 a0 y273 (rd_L6 x3_1 x16_2) a0 x11_1 x3_1 (x3_1.length : Int) x16_2 a0 (wrap64 (x21_3 + 1))) = some r := by first | (rw [hy273]; with_reducible exact H) | (have H2_ := (Option.bind_some _ _).symm.trans H; rw [hy273]; with_reducible exact H2_) | (have H2_ := (Option.bind_some _ _).symm.trans H; with_reducible exact H2_) | with_reducible exact H | (rw [hy273]; exact H) | exact H
       have Ny273 := xA hy273
       clear hy273
       have H' := xA H
       clear H
       go_wp2_with (first | (refine xq rfl ?_; first | (refine xG (some 26) Tryd.func86 #[.slice A265_0 (rd_L6 x3_1 x16_2).length c265_0, .int .i64 x21_3] ?_; (with_reducible refine (slices_Contains_int_int.calls k3 _ _ (rd_L6 x3_1 x16_2) x21_3 false _ ?side1 ?side2 A15.out).mono ?_); (case side1 => exact xC HR265_0.out); (case side2 => exact HC265_0.out); rintro e w' ⟨rfl, ⟨nd, rfl⟩⟩; refine ⟨_, rfl, ?_⟩) | (refine xG (some 30) Tryd.func87 #[.slice A265_0 (rd_L6 x3_1 x16_2).length c265_0] ?_; (with_reducible refine (slices_Clone_int_int.calls _ _ (rd_L6 x3_1 x16_2) t267 _ ?side1 ?side2 A17.out).mono ?_); (case side1 => exact xC HR265_0.out); (case side2 => exact HC265_0.out); rintro e w20 ⟨v268, rfl, ho0, hb⟩; refine ⟨_, rfl, ?_⟩; replace HL265_0 := xA (Kd.R_elder' (xR HL265_0.out) (Kd.R_base ho0) hb); replace HO_4 := xA (Kd.S_elder' (xS HO_4.out) (Kd.R_base ho0) hb); replace HO_14 := xA (Kd.S_elder' (xS HO_14.out) (Kd.R_base ho0) hb); have HO269 := xA (Kd.R_lower ho0 (below_size (xB HB.out))); replace HB := xA (below_step (xB HB.out) hb); (try clear hb); (try clear ho0))) | ((with_reducible refine gate_builtin (b := .append) (xs := #[.tmp 30, .tmp 32]) rfl ?_); at_builtin; refine Kd.R_append (Kd.int .i64) (w0 := w) w.heap.size rfl (.tmp 30) (.tmp 32) 24 3 (.int .i64 0) 8 rfl Tryd.underlying24 info3 rfl (by decide) (by omega) v268 t267 x21_3 [.int .i64 x21_3] (fun _ => True) (fun _ => False) rfl rfl ?aP (fun _ hk => hk.elim) ?aF ?aO ?aB ?aS ?aL ?_; (case aP => exact rfl); (case aB => exact (xB HB.out)); (case aF => exact (fun _ _ => trivial)); (case aO => exact (xR HO269.out)); (case aS => exact (below_size (xB HB.out))); (case aL => have := LMc18.out; omega); intro v271 w21 ho hb hg hat; rw [← Ny270.out] at ho; replace HL265_0 := xA (Kd.R_grown (ok := fun k_ => True ∧ some k_ ≠ (v268 : Value).ownBlock) (by (with_reducible repeat (first | apply Kd.R_alloc | apply Kd.R_drewN | apply Kd.R_drew)); exact HL265_0.out) hg (fun _ hk => hk.2)); replace HO_4 := xA (Kd.S_after (ok := (fun k_ => some k_ ≠ (.slice (some ad265) x3_1.length co10 : Value).ownBlock)) (xS HO_4.out) hg hat); replace HO_14 := xA (Kd.S_after (ok := (fun k_ => some k_ ≠ (u4 : Value).ownBlock)) (xS HO_14.out) hg hat); replace HB := xA (hb); have HO272 := xA (ho); clear HO269; clear ho hb hg hat; obtain ⟨Ao23, co23, eo23⟩ := Kd.R_slice HO272.out; subst eo23) | ((with_reducible refine gate_builtin (b := .append) (xs := #[.tmp 28, .tmp 34]) rfl ?_); at_builtin; refine Kd.S_append (Kd.slice 3 (Kd.int .i64)) (w0 := w) w.heap.size rfl (.tmp 28) (.tmp 34) 72 24 (.slice none 0 0) 24 rfl Tryd.underlying72 info24 rfl (by decide) (by omega) u4 x4_3 y270 [.slice Ao23 y270.length co23] (fun k_ => some k_ ≠ (.slice (some ad265) x3_1.length co10 : Value).ownBlock) (fun k_ => some k_ = (.slice Ao23 y270.length co23 : Value).ownBlock) rfl rfl ?aP (fun k_ hk_ => ((Kd.R_mono (ok' := fun k_ => ((fun k_ => some k_ ≠ (.slice (some ad265) x3_1.length co10 : Value).ownBlock)) k_ ∧ some k_ ≠ (u4 : Value).ownBlock) (Kd.R_apart' (Kd.R_apart' (HO272.out) (Kd.S_typed HO_14.out) (by decide)) (Kd.S_typed HO_4.out) (by decide)) (fun k_ hk => ⟨hk.1.2, hk.2⟩))).1 k_ hk_.symm) ?aF ?aO ?aB ?aS ?aL ?_; (case aP => exact Kd.M_row (Kd.R_mono (Kd.R_tight rfl (Kd.R_mono (ok' := fun k_ => ((fun k_ => some k_ ≠ (.slice (some ad265) x3_1.length co10 : Value).ownBlock)) k_ ∧ some k_ ≠ (u4 : Value).ownBlock) (Kd.R_apart' (Kd.R_apart' (HO272.out) (Kd.S_typed HO_14.out) (by decide)) (Kd.S_typed HO_4.out) (by decide)) (fun k_ hk => ⟨hk.1.2, hk.2⟩))) (fun _ h_ => h_))); (case aB => exact (xB HB.out)); (case aF => exact (fun k_ hk => Kd.fresh' (Kd.S_lt (xS HO_14.out)) k_ hk)); (case aO => exact (by (with_reducible repeat (first | apply Kd.S_alloc | apply Kd.S_drewN | apply Kd.S_drew)); exact Kd.S_mono HO_4.out (fun k_ hk => ⟨hk.1, fun e_ => hk.2 e_⟩))); (case aS => exact (below_size (xB HB.out))); (case aL => have := LMc19.out; omega); intro v274 w22 ho hb hg hat; rw [← Ny273.out] at ho; replace HL265_0 := xA (Kd.R_over' (ok := fun k_ => True ∧ some k_ ≠ (v268 : Value).ownBlock) (by (with_reducible repeat (first | apply Kd.R_alloc | apply Kd.R_drewN | apply Kd.R_drew)); exact HL265_0.out) (Kd.S_typed HO_4.out) (by decide) hg); replace HO_14 := xA (Kd.S_after (ok := (fun k_ => some k_ ≠ (.slice Ao23 y270.length co23 : Value).ownBlock)) (by (with_reducible repeat (first | apply Kd.S_alloc | apply Kd.S_drewN | apply Kd.S_drew)); exact Kd.S_mono HO_14.out (fun _ hk => ⟨hk.2, hk.1⟩)) hg hat); replace HB := xA (hb); have HO275 := xA (ho); clear HO_4 HO272; clear ho hb hg hat))
       go_roundg k3
       case measure => have := HK1.out; have := HK2.out; have := HK3.out; omega
       case rel => exact ⟨(y273), (wrap64 (x21_3 + 1)), xs, H', ⟨by have := HK1.out; have := HK2.out; have := HK3.out; omega⟩, ⟨xS HO275.out⟩, ⟨by (with_reducible repeat (first | apply Kd.S_alloc | apply Kd.S_drewN | apply Kd.S_drew)); exact Kd.S_mono HO_14.out (fun _ hk => hk.2)⟩, ⟨xB HB.out⟩, ⟨Kd.R_mono (xR HL265_0.out) (fun _ _ => trivial)⟩⟩
/-! ### strconv_Itoa_88: function 88 -/
def GLob (w : World) : Prop := Go.Lib.TabIs Tryd.prog w "internal/strconv.uint64pow10" .u64 Go.Lib.pow10Tab
theorem globNamed : ∃ g, Tryd.prog.globalNamed "internal/strconv.uint64pow10" = some g := Option.isSome_iff_exists.1 (by kernel_rfl)
theorem GLob.below {w w1 : World} (h : GLob w) (hb : Below w.heap.size w w1) : GLob w1 := by
 obtain ⟨g, hg⟩ := globNamed
 exact Go.Joins.var_stays hg h hb (Nat.le_refl _)
def strconv_Itoa_88.f (a0 : Int) : Option ByteArray := if -9223372036854775808 ≤ a0 then (if a0 ≤ 9223372036854775807 then some ⟨(Go.Lib.itoa a0).toArray⟩ else none) else none
theorem strconv_Itoa_88.calls (a0 : Int) (r : ByteArray) (w : World) (hgl_ : GLob w) (h : strconv_Itoa_88.f a0 = some r) :
  Calls Tryd.prog 88 #[.int .i64 a0] w fun e w' => e = .returned (.string r) ∧ Below w.heap.size w w' := by
 unfold strconv_Itoa_88.f at h
 by_cases c1 : -9223372036854775808 ≤ a0
 rotate_left
 ·rw [if_neg c1] at h
  exact absurd h (by simp)
 rw [if_pos c1] at h
 by_cases c2 : a0 ≤ 9223372036854775807
 rotate_left
 ·rw [if_neg c2] at h
  exact absurd h (by simp)
 rw [if_pos c2] at h
 obtain rfl := Option.some.inj h
 refine (Tryd.strconv_Itoa a0 c1 c2 w hgl_).mono ?_
 rintro e w' ⟨rfl, k, os, rfl⟩
 exact ⟨rfl, Go.Lib.below_grow _ w (Nat.le_refl _) k os⟩

-- NOT PRINTED: function 122 (abi_NoEscape)

-- NOT PRINTED: function 110 (strings_Builder_copyCheck)

-- NOT PRINTED: function 123 (bytealg_MakeNoZero)

-- NOT PRINTED: function 111 (strings_Builder_grow)

-- NOT PRINTED: function 101 (strings_Builder_Grow)

-- NOT PRINTED: function 102 (strings_Builder_WriteString)

-- NOT PRINTED: function 103 (strings_Builder_String)

/-! ### strings_Join: function 89 -/
theorem strings_Join.spot {α : Type} {d : Kd α} {e base : Nat} {w : World} {ok : Nat → Prop} {A : Option Addr} {n c : Nat} {xs : List α} (h : d.R e w base ok (.slice A n c) xs) : ∀ ad, A = some ad → ad.spot = none := by
  rintro ad rfl
  obtain ⟨inner, ho⟩ := Kd.R_own h
  obtain ⟨_, h0 | ⟨g, cap, cur, hv, _⟩⟩ := ho
  · simp at h0
  · simp at hv
    rw [hv.1]
def strings_Join.f (l0 : List ByteArray) (a1 : ByteArray) : Option ByteArray := if l0.length ≤ 140737488355328 then (if (Go.Lib.join (l0.map (·.data.toList)) a1.data.toList).length ≤ 140737488355328 then some ⟨(Go.Lib.join (l0.map (·.data.toList)) a1.data.toList).toArray⟩ else none) else none
theorem strings_Join.calls (A0 : Option Addr) (c0 : Nat) (l0 : List ByteArray) (a1 : ByteArray) (r : ByteArray) (w : World) (hr0 : Kd.C Kd.string w A0 l0.length l0) (hc0 : l0.length ≤ c0) (hs : ∀ ad, A0 = some ad → ad.spot = none) (h : strings_Join.f l0 a1 = some r) :
  Calls Tryd.prog 89 #[.slice A0 l0.length c0, .string a1] w fun e w' => e = .returned (.string r) ∧ Below w.heap.size w w' := by
 unfold strings_Join.f at h
 by_cases c1 : l0.length ≤ 140737488355328
 rotate_left
 ·rw [if_neg c1] at h
  exact absurd h (by simp)
 rw [if_pos c1] at h
 by_cases c2 : (Go.Lib.join (l0.map (·.data.toList)) a1.data.toList).length ≤ 140737488355328
 rotate_left
 ·rw [if_neg c2] at h
  exact absurd h (by simp)
 rw [if_pos c2] at h
 obtain rfl := Option.some.inj h
 cases l0 with
 | nil =>
  refine (Tryd.strings_Join_none A0 c0 a1 w).mono ?_
  rintro e w' ⟨rfl, rfl⟩
  exact ⟨rfl, Below.refl _ _⟩
 | cons x xs =>
  obtain ⟨ad, rfl, hc⟩ := hr0.2.2 (by simp)
  obtain ⟨bk, o, sub⟩ := ad
  have hcell : ∀ (j : Nat) y, (x :: xs)[j]? = some y → w.cell? ((⟨bk, o, sub⟩ : Addr).add j) = some (.string y) := fun j y hj => by
   obtain ⟨c, _, hK, hu⟩ := hc j y hj
   have e : c = [.string y] := hK
   subst e
   have := hu 0 _ rfl
   simpa [Kd.string, Kd.scalar] using this
  have h0 := hcell 0 x rfl
  obtain rfl : sub = none := hs _ rfl
  have hbk : bk < w.heap.size := by
   rcases Nat.lt_or_ge bk w.heap.size with h1 | h1
   ·exact h1
   ·simp [World.cell?, Addr.add, Array.getElem?_eq_none h1] at h0
  exact Tryd.strings_Join bk o c0 (x :: xs) a1 w (fun j y hj => by have h_ := hcell j y hj; unfold Addr.add at h_; split at h_ <;> simp_all) hbk c1 hc0 c2

end Go.Proofs.YtjplcongellcmaaDoor.PFnExactCountOutputs
