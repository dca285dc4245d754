/- What each Go function that the statement FnExactCountOutputs reaches answers, proved call by call. No condition beyond those that the theorems print. (Written by wip/tools/xprint.py of this repo, over the kit's print.) -/
import Derived.Test.YtjplcongellcmaaDoorPFnExactCountOutputsx0
import Derived.Test.YtjplcongellcmaaDoorPFnExactCountOutputsx5
import Derived.Test.YtjplcongellcmaaDoorPFnExactCountOutputsx6
import Derived.Test.YtjplcongellcmaaDoorPFnExactCountOutputsx7
namespace Go.Proofs.YtjplcongellcmaaDoor.PFnExactCountOutputs
open Go.RowKit Go.Proofs.YtjplcongellcmaaDoorW.PrintWords Go.Proofs.YtjplcongellcmaaDoorW.PrintLast Go.Proofs.YtjplcongellcmaaDoorW.PrintMore
attribute [local go_sem] max2_int min2_int max_two min_two max_three min_three max_four min_four   -- for this text's walks alone
set_option linter.unusedVariables false
set_option linter.unusedSimpArgs false
def x8a0 : Array Bool := #[Zz,Zz,Zz,Zz,Zz,Zz,Zz,Zz,Zz,Zz]
def x8a1 : Array Bool := #[Yy,Zz,Zz,Zz,Zz,Zz,Zz,Zz,Zz,Zz]
def x8a2 : Array Bool := #[Yy,Zz,Yy,Zz,Zz,Zz,Zz,Zz,Zz,Zz]
def x8a3 : Array Bool := #[Yy,Zz,Yy,Yy,Zz,Zz,Zz,Zz,Zz,Zz]
def x8a4 : Array Bool := #[Yy,Zz,Yy,Yy,Yy,Zz,Zz,Zz,Zz,Zz]
def x8a5 : Array Bool := #[Yy,Yy,Yy,Yy,Yy,Zz,Zz,Zz,Zz,Zz]
def x8a6 : Array Bool := #[Yy,Yy,Yy,Yy,Yy,Yy,Zz,Zz,Zz,Zz]
def x8a7 : Array Bool := #[Yy,Yy,Yy,Yy,Yy,Yy,Yy,Zz,Zz,Zz]
def x8a8 : Array Bool := #[Yy,Yy,Yy,Yy,Yy,Yy,Yy,Yy,Zz,Zz]
def x8a9 : Array Bool := #[Yy,Yy,Yy,Yy,Yy,Yy,Yy,Yy,Yy,Zz]
def x8a10 : Array Bool := #[Yy,Yy,Yy,Yy,Yy,Yy,Yy,Yy,Yy,Yy]

/-! ### impl_chain: function 90 -/
def impl_chain.l0 : Nat → List (List Int) → List (S79) → Int → Int → Option ((List (List Int)))
 | 0, _, _, _, _ => none
 | k + 1, x5, x11, x12, x13 => if x13 < x12 then (if 0 ≤ x13 then (if x13 < (x11.length : Int) then (if x13 < (x5.length : Int) then ((impl_First_run.f k ((rd_T79 x11 x13).f0) ((rd_T79 x11 x13).f1) ((rd_T79 x11 x13).f2) ((rd_T79 x11 x13).f3.f0) ((rd_T79 x11 x13).f3.f1) 0 (rd_L6 x5 x13)).bind fun t332 => (if x5.length < 5864062014805 then (impl_chain.l0 k (x5 ++ [t332]) x11 x12 (wrap64 (x13 + 1))) else (none))) else (none)) else (none)) else (none)) else (some x5)
def impl_chain.f (k : Nat) (l0 : List (S79)) (l1 : List Int) : Option ((List (List Int))) := (slices_Clone_int_int.f l1).bind fun t323 => (impl_chain.l0 k (([t323] : List (List Int))) l0 (l0.length : Int) 0)
theorem impl_chain.mono_l : ∀ k, (∀ y0 y1 y2 y3, LeO (impl_chain.l0 k y0 y1 y2 y3) (impl_chain.l0 (k + 1) y0 y1 y2 y3))
 | 0 => fun _ _ _ _ r h => by simp [impl_chain.l0] at h
 | k + 1 => by
  have ih0 := impl_chain.mono_l k
  have m0 := @impl_First_run.mono
  intros
  unfold impl_chain.l0
  exact xM
theorem impl_chain.mono : ∀ a0 a1 k, LeO (impl_chain.f k a0 a1) (impl_chain.f (k + 1) a0 a1) := by
 intro a0 a1 k
 have ih0 := impl_chain.mono_l k
 have m0 := @impl_First_run.mono
 unfold impl_chain.f
 exact xM
def impl_chain.T5 : Bool × List (List Nat × List Nat) := (true, [([], []), ([], []), ([], []), ([], []), ([2, 3], [2, 3]), ([4], [4]), ([1, 5], [1, 5]), ([6], [6]), ([0, 7, 6], [0, 7]), ([8, 8, 0, 1, 2, 3, 4, 5, 6, 7, 8], [0, 2, 8])])
def impl_chain.B5 : List Nat := [0, 0, 0, 0, 12, 28, 62, 126, 255, 511]
theorem impl_chain.tab5 : rtab .any (opsOf Tryd.f90 5) = impl_chain.T5 := by kernel_rfl
theorem impl_chain.bits5 : waitsOk impl_chain.T5.2 impl_chain.B5 = true := by kernel_rfl
set_option maxHeartbeats 200000000 in
set_option maxRecDepth 100000 in
theorem impl_chain.calls (k : Nat) (A0 : Option Addr) (c0 : Nat) (l0 : List (S79)) (A1 : Option Addr) (c1 : Nat) (l1 : List Int) (r : List (List Int)) (w : World) (hr0 : Kd.C k79 w A0 l0.length l0) (hc0 : l0.length ≤ c0) (hr1 : Kd.C (Kd.int .i64) w A1 l1.length l1) (hc1 : l1.length ≤ c1) (h : impl_chain.f k l0 l1 = some r) :
  Calls Tryd.prog 90 #[.slice A0 l0.length c0, .slice A1 l1.length c1] w fun e w' => ∃ v0_ : Value, e = .returned (v0_) ∧ Kd.S (Kd.slice 3 (Kd.int .i64)) 24 w' w.heap.size (fun _ => True) v0_ r ∧ Below w.heap.size w w' := by
 have hu79 := Tryd.underlying79
 have HR0 := xA hr0
 have HC0 := xA hc0
 clear hr0 hc0
 have HR1 := xA hr1
 have HC1 := xA hc1
 clear hr1 hc1
 have HB := xA (Below.refl w.heap.size w)
 have H : ((slices_Clone_int_int.f l1).bind fun t323 => (impl_chain.l0 k (([t323] : List (List Int))) l0 (l0.length : Int) 0)) = some r := h
 clear h
 replace H := Option.bind_eq_some_iff.mp H
 obtain ⟨t323, A30, H⟩ := H
 (try dsimp only at H)
 have A3 := xA A30
 clear A30
 obtain ⟨y326, hy326⟩ : ∃ y_ : List (List Int), y_ = (([t323] : List (List Int))) := ⟨_, rfl⟩
 replace H : (impl_chain.l0 k y326 l0 (l0.length : Int) 0) = some r := by first | (rw [hy326]; with_reducible exact H) | (have H2_ := (Option.bind_some _ _).symm.trans H; rw [hy326]; with_reducible exact H2_) | (have H2_ := (Option.bind_some _ _).symm.trans H; with_reducible exact H2_) | with_reducible exact H | (rw [hy326]; exact H) | exact H
 have Ny326 := xA hy326
 clear hy326
 have H' := xA H
 clear H
 go_enter Tryd.func90, Tryd.ntmps90
 go_wp2_with (first | ((with_reducible refine gate_callee (f := 87) rfl ?_); refine goesL_ (some 9) rfl rfl Tryd.func87 (by kernel_rfl) rfl #[.slice A1 l1.length c1] rfl (by (try simp only [List.map_toArray, List.map_cons, List.map_nil]); first | done | rfl | (simp only [List.length_drop, List.length_take]; rfl)) ?_; (with_reducible refine (slices_Clone_int_int.calls _ _ l1 t323 _ ?side1 ?side2 A3.out).mono ?_); (case side1 => exact xC HR1.out); (case side2 => exact HC1.out); rintro e w4 ⟨v324, rfl, ho0, hb⟩; refine ⟨_, rfl, ?_⟩; have n0_ := xA (Kd.R_lower ho0 (below_size (xB HB.out))); have n1_ := xA (below_step (xB HB.out) hb); clear HB; have HO325 := n0_; have HB := n1_; clear n0_ n1_; (try clear hb); (try clear ho0); obtain ⟨Ao5, co5, eo5⟩ := Kd.R_slice HO325.out; subst eo5) | ((with_reducible refine gate_dst (N := 10) rfl ?_); refine Kd.S_lits (Kd.slice 3 (Kd.int .i64)) w.heap.size 24 ?hg (N := 10) ?hd (xs := ([t323] : List (List Int))) (inner := [.slice Ao5 t323.length co5]) (ok := fun _ => True) (fun j_ _ => j_ = 0) ?hr rfl ?hp (fun _ _ _ h1_ h2_ => h1_.trans h2_.symm) (fun _ _ _ => trivial) trivial (Below.refl _ _) (below_size (xB HB.out)) (by simp) ?_; (case hd => rfl); (case hg => rfl); (case hr => first | (go_simp; done) | (go_simp; rfl)); (case hp => (intro j_ x_ hx_; match j_, hx_ with | 0, hx_ => (obtain rfl := Option.some.inj hx_; exact (show Kd.M (Kd.slice 3 (Kd.int .i64)) _ _ _ t323 [.slice Ao5 t323.length co5] from ⟨_, rfl, Kd.R_mono (xR HO325.out) (fun _ _ => rfl)⟩)) | _ + 1, hx_ => simp at hx_)); intro v327 w6 ho7 hbx_ hg_ hnew_; have hb : Below _ _ w6 := ⟨hg_.1, hg_.2, hg_.3, hg_.4, fun i_ hi_ => hg_.5 i_ hi_ (by simp)⟩; clear hbx_ hg_ hnew_; (first | rw [← Ny326.out] at ho7 | (simp only [Int.reduceToNat] at ho7; rw [← Ny326.out] at ho7)); have n0_ := xA (below_step (xB HB.out) hb); have n1_ := xA (ho7); clear HB; clear HO325; have HB := n0_; have HO328 := n1_; clear n0_ n1_; clear hb ho7))
 go_loopg [5, 13] k (fun kq v5 v13 w' => ∃ (x5_1 : List (List Int)) (x13_1 : Int), v13 = .int .i64 x13_1 ∧ Aside0 (impl_chain.l0 kq x5_1 l0 (l0.length : Int) x13_1 = some r) ∧ Aside0 (kq ≤ k) ∧ Aside0 (Kd.S (Kd.slice 3 (Kd.int .i64)) 24 w' w.heap.size (fun _ => True) v5 x5_1) ∧ Aside0 (Below w.heap.size w w'))
 case atStart => exact ⟨(y326), (0), xs, H', ⟨Nat.le_refl _⟩, ⟨xS HO328.out⟩, ⟨xB HB.out⟩⟩
 case round =>
  clear H'
  try clear c1
  obtain ⟨x5_1, x13_1, rfl, HA, HK1, HO_5, HB⟩ := hrel
  cases gk with
  | zero => exact absurd HA.out (by simp [impl_chain.l0])
  | succ k1 =>
   have H := HA.out
   clear HA
   simp only [impl_chain.l0] at H
   by_cases c8 : x13_1 < (l0.length : Int)
   rotate_left
   ·rw [if_neg c8] at H
    have c8b0 : decide (x13_1 < (l0.length : Int)) = false := decide_eq_false c8
    clear c8
    obtain rfl := Option.some.inj H
    go_wp2
    go_ret
    exact ⟨_, xr, xS HO_5.out, xB HB.out⟩

   rw [if_pos c8] at H
   have c8b0 : decide (x13_1 < (l0.length : Int)) = true := decide_eq_true c8
   clear c8
   by_cases c9 : 0 ≤ x13_1
   rotate_left
   ·rw [if_neg c9] at H
    exact absurd H (by simp)
   rw [if_pos c9] at H
   have c9b0 : decide (0 ≤ x13_1) = true := decide_eq_true c9
   clear c9
   by_cases c10 : x13_1 < (l0.length : Int)
   rotate_left
   ·rw [if_neg c10] at H
    exact absurd H (by simp)
   rw [if_pos c10] at H
   have c10b0 : decide (x13_1 < (l0.length : Int)) = true := decide_eq_true c10
   clear c10
   by_cases c11 : x13_1 < (x5_1.length : Int)
   rotate_left
   ·rw [if_neg c11] at H
    exact absurd H (by simp)
   rw [if_pos c11] at H
   have c11b0 : decide (x13_1 < (x5_1.length : Int)) = true := decide_eq_true c11
   clear c11
   replace H := Option.bind_eq_some_iff.mp H
   obtain ⟨t332, A120, H⟩ := H
   (try dsimp only at H)
   have A12 := xA A120
   clear A120
   by_cases c13 : x5_1.length < 5864062014805
   rotate_left
   ·rw [if_neg c13] at H
    exact absurd H (by simp)
   rw [if_pos c13] at H
   have LMc13 := xA c13
   clear c13
   obtain ⟨y335, hy335⟩ : ∃ y_ : List (List Int), y_ = (x5_1 ++ [t332]) := ⟨_, rfl⟩
   replace H : (impl_chain.l0 k1 y335 l0 (l0.length : Int) (wrap64 (x13_1 + 1))) = some r := by first | (rw [hy335]; with_reducible exact H) | (have H2_ := (Option.bind_some _ _).symm.trans H; rw [hy335]; with_reducible exact H2_) | (have H2_ := (Option.bind_some _ _).symm.trans H; with_reducible exact H2_) | with_reducible exact H | (rw [hy335]; exact H) | exact H
   have Ny335 := xA hy335
   clear hy335
   have H' := xA H
   clear H
   have p329 : 0 ≤ (x13_1 : Int) := of_decide_eq_true (by first | (with_reducible assumption) | assumption)
   have q329 : x13_1 < (l0.length : Int) := of_decide_eq_true (by first | (with_reducible assumption) | assumption)
   obtain ⟨ad329, e329, hx329_0, hx329_1, hx329_2, hx329_3, hx329_4⟩ := at_T79 HR0.out x13_1 p329 q329
   cases e329
   replace hx329_0 := (HB.out.cell (World.block_lt_of_cell? w _ hx329_0)).trans hx329_0
   replace hx329_1 := (HB.out.cell (World.block_lt_of_cell? w _ hx329_1)).trans hx329_1
   replace hx329_2 := (HB.out.cell (World.block_lt_of_cell? w _ hx329_2)).trans hx329_2
   replace hx329_3 := (HB.out.cell (World.block_lt_of_cell? w _ hx329_3)).trans hx329_3
   replace hx329_4 := (HB.out.cell (World.block_lt_of_cell? w _ hx329_4)).trans hx329_4
   replace p329 := eq_true p329
   replace q329 := eq_true q329
   try go_wp2_with (first | ((with_reducible refine gate_dst (N := 7) rfl ?_); refine box_event ?hg (N := 7) ?hd (cs := #[.int .i64 0, .int .i64 0, .int .i64 0, .int .i64 0, .bool false]) (t := 79) ?hr ?_; (case hd => rfl); (case hg => rfl); (case hr => first | (go_simp; done) | (go_simp; rfl)); intro gb330 hg w14 hbox hb; have n0_ := xA (Kd.S_below (xS HO_5.out) hb); have n1_ := xA (below_step (xB HB.out) hb); have n2_ := xA (hbox); have n3_ := xgw hg (below_size (xB HB.out)); have n4_ := xgw hg (below_size (xB HB.out)); clear HO_5; clear HB; have HO_5 := n0_; have HB := n1_; have BK330 := n2_; have GW330 := n3_; have GE330 := n4_; clear n0_ n1_ n2_ n3_ n4_; clear hb hbox hg; replace hz330 := blk_cell BK330.out; replace hy330 := blk_frozen BK330.out))
   have n0_ : Aside0 (Kd.S (Kd.slice 3 (Kd.int .i64)) 24 (((((w14.setCell ⟨gb330, 0, none⟩ (.int .i64 ((rd_T79 l0 x13_1).f0))).setCell ⟨gb330, 1, none⟩ (.int .i64 ((rd_T79 l0 x13_1).f1))).setCell ⟨gb330, 2, none⟩ (.int .i64 ((rd_T79 l0 x13_1).f2))).setCell ⟨gb330, 3, none⟩ (.int .i64 ((rd_T79 l0 x13_1).f3.f0))).setCell ⟨gb330, 4, none⟩ (.bool ((rd_T79 l0 x13_1).f3.f1))) w.heap.size (fun _ => True) u5 x5_1) := ⟨by (with_reducible repeat (first | apply Kd.S_alloc | apply Kd.S_drewN | apply Kd.S_drew)); exact Kd.S_mono (Kd.S_far (p := ⟨gb330, 4, none⟩) (Kd.S_far (p := ⟨gb330, 3, none⟩) (Kd.S_far (p := ⟨gb330, 2, none⟩) (Kd.S_far (p := ⟨gb330, 1, none⟩) (Kd.S_far (p := ⟨gb330, 0, none⟩) (Kd.S_types HO_5.out BK330.out (by decide)) (fun _ hk => hk.2) (.int .i64 ((rd_T79 l0 x13_1).f0))) (fun _ hk => hk.2) (.int .i64 ((rd_T79 l0 x13_1).f1))) (fun _ hk => hk.2) (.int .i64 ((rd_T79 l0 x13_1).f2))) (fun _ hk => hk.2) (.int .i64 ((rd_T79 l0 x13_1).f3.f0))) (fun _ hk => hk.2) (.bool ((rd_T79 l0 x13_1).f3.f1))) (fun _ hk => trivial)⟩
   have n1_ : Aside0 ((((((w14.setCell ⟨gb330, 0, none⟩ (.int .i64 ((rd_T79 l0 x13_1).f0))).setCell ⟨gb330, 1, none⟩ (.int .i64 ((rd_T79 l0 x13_1).f1))).setCell ⟨gb330, 2, none⟩ (.int .i64 ((rd_T79 l0 x13_1).f2))).setCell ⟨gb330, 3, none⟩ (.int .i64 ((rd_T79 l0 x13_1).f3.f0))).setCell ⟨gb330, 4, none⟩ (.bool ((rd_T79 l0 x13_1).f3.f1))).heap[gb330]? = some (.cells #[.int .i64 ((rd_T79 l0 x13_1).f0), .int .i64 ((rd_T79 l0 x13_1).f1), .int .i64 ((rd_T79 l0 x13_1).f2), .int .i64 ((rd_T79 l0 x13_1).f3.f0), .bool ((rd_T79 l0 x13_1).f3.f1)] 79 (0, 0))) := ⟨by (with_reducible repeat (first | refine blk_drewN ?_ _ | refine blk_drew ?_ | refine blk_alloc ?_ _)); refine blk_put (cs := #[.int .i64 ((rd_T79 l0 x13_1).f0), .int .i64 ((rd_T79 l0 x13_1).f1), .int .i64 ((rd_T79 l0 x13_1).f2), .int .i64 ((rd_T79 l0 x13_1).f3.f0), .bool false]) ?_ 4 _ rfl; (with_reducible repeat (first | refine blk_drewN ?_ _ | refine blk_drew ?_ | refine blk_alloc ?_ _)); refine blk_put (cs := #[.int .i64 ((rd_T79 l0 x13_1).f0), .int .i64 ((rd_T79 l0 x13_1).f1), .int .i64 ((rd_T79 l0 x13_1).f2), .int .i64 0, .bool false]) ?_ 3 _ rfl; (with_reducible repeat (first | refine blk_drewN ?_ _ | refine blk_drew ?_ | refine blk_alloc ?_ _)); refine blk_put (cs := #[.int .i64 ((rd_T79 l0 x13_1).f0), .int .i64 ((rd_T79 l0 x13_1).f1), .int .i64 0, .int .i64 0, .bool false]) ?_ 2 _ rfl; (with_reducible repeat (first | refine blk_drewN ?_ _ | refine blk_drew ?_ | refine blk_alloc ?_ _)); refine blk_put (cs := #[.int .i64 ((rd_T79 l0 x13_1).f0), .int .i64 0, .int .i64 0, .int .i64 0, .bool false]) ?_ 1 _ rfl; (with_reducible repeat (first | refine blk_drewN ?_ _ | refine blk_drew ?_ | refine blk_alloc ?_ _)); refine blk_put (cs := #[.int .i64 0, .int .i64 0, .int .i64 0, .int .i64 0, .bool false]) ?_ 0 _ rfl; (with_reducible repeat (first | refine blk_drewN ?_ _ | refine blk_drew ?_ | refine blk_alloc ?_ _)); exact BK330.out⟩
   have n2_ : Aside0 (Below w.heap.size w (((((w14.setCell ⟨gb330, 0, none⟩ (.int .i64 ((rd_T79 l0 x13_1).f0))).setCell ⟨gb330, 1, none⟩ (.int .i64 ((rd_T79 l0 x13_1).f1))).setCell ⟨gb330, 2, none⟩ (.int .i64 ((rd_T79 l0 x13_1).f2))).setCell ⟨gb330, 3, none⟩ (.int .i64 ((rd_T79 l0 x13_1).f3.f0))).setCell ⟨gb330, 4, none⟩ (.bool ((rd_T79 l0 x13_1).f3.f1)))) := ⟨xB1 GE330.out HB.out⟩
   (try clear HO_5)
   (try clear BK330)
   (try clear HB)
   generalize (((((w14.setCell ⟨gb330, 0, none⟩ (.int .i64 ((rd_T79 l0 x13_1).f0))).setCell ⟨gb330, 1, none⟩ (.int .i64 ((rd_T79 l0 x13_1).f1))).setCell ⟨gb330, 2, none⟩ (.int .i64 ((rd_T79 l0 x13_1).f2))).setCell ⟨gb330, 3, none⟩ (.int .i64 ((rd_T79 l0 x13_1).f3.f0))).setCell ⟨gb330, 4, none⟩ (.bool ((rd_T79 l0 x13_1).f3.f1))) = w16 at n0_ n1_ n2_ ⊢
   have HO_5 := n0_
   have BK330 := n1_
   have HB := n2_
   clear n0_ n1_ n2_
   replace HO_5 := xA (Kd.S_drew HO_5.out)
   replace BK330 := xA (blk_drew BK330.out)
   replace HB := xA (below_drew1 HB.out)
   obtain ⟨Ao18, co18, eo18⟩ := Kd.S_slice HO_5.out
   (first | subst eo18 | (injection eo18 with f1_ f2_ f3_; have f4_ := f1_.symm; have f5_ := f3_.symm; clear f1_ f2_ f3_; subst f4_; subst f5_))
   have p331 : 0 ≤ (x13_1 : Int) := of_decide_eq_true (by first | (with_reducible assumption) | assumption)
   have q331 : x13_1 < (x5_1.length : Int) := of_decide_eq_true (by first | (with_reducible assumption) | assumption)
   obtain ⟨ad331, A331_0, c331_0, e331, hx331_0, hl331_0, hi331_0⟩ := at_L6 (Kd.S_reads' HO_5.out).2.2 x13_1 p331 q331
   cases e331
   obtain ⟨ce331, hce331, hMe331, hcc331⟩ := Kd.S_get HO_5.out [] x13_1 p331 (by first | exact q331 | exact of_decide_eq_true (by first | (with_reducible assumption) | assumption) | (have e_ := (Kd.S_reads' HO_5.out).1; omega))
   obtain ⟨ve331_0, rfl, ge331_0⟩ := hMe331
   have hv331_0 := hcc331 0 _ rfl
   rw [Nat.add_zero, show ((Kd.slice 3 (Kd.int .i64))).sz = 1 from rfl, Nat.mul_one] at hv331_0
   replace hv331_0 := Option.some.inj (hv331_0.symm.trans hx331_0)
   rw [hv331_0] at ge331_0
   have HL331_0 := xA (show Kd.R (Kd.int .i64) 3 _ _ _ _ (rd_L6 x5_1 x13_1) from ge331_0)
   clear hv331_0 ge331_0
   clear hcc331 hce331
   have HR331_0 := xA hi331_0
   have HC331_0 := xA hl331_0
   clear hi331_0 hl331_0
   replace p331 := eq_true p331
   replace q331 := eq_true q331
   refine start_ (n := 10) (S := fun w' => w'.cell? ⟨gb330, 0, none⟩ = some (.int .i64 ((rd_T79 l0 x13_1).f0)) ∧ w'.cell? ⟨gb330, 1, none⟩ = some (.int .i64 ((rd_T79 l0 x13_1).f1)) ∧ w'.cell? ⟨gb330, 2, none⟩ = some (.int .i64 ((rd_T79 l0 x13_1).f2)) ∧ w'.cell? ⟨gb330, 3, none⟩ = some (.int .i64 ((rd_T79 l0 x13_1).f3.f0)) ∧ w'.cell? ⟨gb330, 4, none⟩ = some (.bool ((rd_T79 l0 x13_1).f3.f1)) ∧ w'.cell? (ad331.add (x13_1).toNat) = some (.slice A331_0 (rd_L6 x5_1 x13_1).length c331_0)) (ds := [7, 8]) x8a0 (by kernel_rfl) rfl rfl ⟨(blk_cell BK330.out 0).trans rfl, (blk_cell BK330.out 1).trans rfl, (blk_cell BK330.out 2).trans rfl, (blk_cell BK330.out 3).trans rfl, (blk_cell BK330.out 4).trans rfl, hx331_0⟩ (fun hHeld => ?_); refine with_tabW impl_chain.tab5 impl_chain.bits5 (fun HT_ HW_ => ?_)
   generalize w16.drew = w17 at HO_5 BK330 HB HL331_0 HR331_0 hx331_0 hHeld ⊢
   refine xP 0 18 x8a1 ?_
   refine xP 2 20 x8a2 ?_
   refine xP 3 21 x8a3 ?_
   refine xP 4 22 x8a4 ?_
   refine xT6 hHeld 1 19 x8a5 ?_
   refine xT6 hHeld 5 23 x8a6 ?_
   refine xU 6 24 x8a7 (fun K hK => ?_)
   refine xY Tryd.func104 #[.agg #[.int .i64 ((rd_T79 l0 x13_1).f0), .int .i64 ((rd_T79 l0 x13_1).f1), .int .i64 ((rd_T79 l0 x13_1).f2), .int .i64 ((rd_T79 l0 x13_1).f3.f0), .bool ((rd_T79 l0 x13_1).f3.f1)], .int .i64 0, .slice A331_0 (rd_L6 x5_1 x13_1).length c331_0] ?_
   with_reducible refine (impl_First_run.calls k1 ((rd_T79 l0 x13_1).f0) ((rd_T79 l0 x13_1).f1) ((rd_T79 l0 x13_1).f2) ((rd_T79 l0 x13_1).f3.f0) ((rd_T79 l0 x13_1).f3.f1) 0 _ _ (rd_L6 x5_1 x13_1) t332 _ ?side1 ?side2 A12.out).mono ?_
   (case side1 => repeat (first | exact (by repeat (first | (with_reducible exact HR331_0.out) | (with_reducible refine Kd.C_alloc ?_ _) | (with_reducible refine Kd.C_drewN ?_ _) | (with_reducible refine Kd.C_drew ?_) | exact HR331_0.out)) | (with_reducible refine Kd.C_alloc ?_ _) | (with_reducible refine Kd.C_drewN ?_ _) | (with_reducible refine Kd.C_drew ?_)))
   (case side2 => exact HC331_0.out)
   rintro e w19 ⟨v333, rfl, ho0, hb⟩
   have HS5_ := (hb.cell (World.block_lt_of_cell? _ _ (hHeld.2.2.2.2.2))).trans (hHeld.2.2.2.2.2)
   refine ⟨_, rfl, ?_⟩
   replace HO_5 := xA (Kd.S_elder' (xS HO_5.out) (Kd.R_base ho0) hb)
   have HO334 := xA (Kd.R_lower (Kd.R_new' ho0 (Kd.R_lt (by (with_reducible repeat (first | apply Kd.R_alloc | apply Kd.R_drewN | apply Kd.R_drew)); exact HL331_0.out))) (below_size (xB1 GE330.out HB.out)))
   replace HL331_0 := xA (Kd.R_elder' (by (with_reducible repeat (first | apply Kd.R_alloc | apply Kd.R_drewN | apply Kd.R_drew)); exact HL331_0.out) (Kd.R_base ho0) hb)
   replace BK330 := xkb BK330 hb
   replace HR331_0 := xA (Kd.C_below (by repeat (first | (with_reducible exact HR331_0.out) | (with_reducible refine Kd.C_alloc ?_ _) | (with_reducible refine Kd.C_drewN ?_ _) | (with_reducible refine Kd.C_drew ?_) | exact HR331_0.out)) hb)
   replace HB := xA (below_step (xB1 GE330.out HB.out) hb)
   (try clear hb); (try clear hb2); (try clear hk); (try clear hi)
   (try clear ho0)
   obtain ⟨Ao21, co21, eo21⟩ := Kd.R_slice HO334.out
   (first | subst eo21 | (injection eo21 with f1_ f2_ f3_; have f4_ := f1_.symm; have f5_ := f3_.symm; clear f1_ f2_ f3_; subst f4_; subst f5_))
   refine hK.out _ _ ⟨(blk_cell BK330.out 0).trans rfl, (blk_cell BK330.out 1).trans rfl, (blk_cell BK330.out 2).trans rfl, (blk_cell BK330.out 3).trans rfl, (blk_cell BK330.out 4).trans rfl, HS5_⟩ (fun hHeld => ?_)
   clear hK K
   refine xN ?_
   refine last_ (i := 7) (N := some 25) x8a8 rfl rfl (one_of HT_.out (by kernel_rfl)) (by decide) (fun K hK => ?_)
   refine value_ (w1 := ?_) (v := ?_) (by rfl) rfl ?_ ?_
   rotate_left 2
   ·go_simp
    constructor
    ·rfl
    ·rfl
   refine hK.out _ _ ?_
   clear hK K
   refine xN ?_
   refine last_ (i := 8) (N := some 26) x8a9 rfl rfl (one_of HT_.out (by kernel_rfl)) (by decide) (fun K hK => ?_)
   refine Kd.S_append_step (Kd.slice 3 (Kd.int .i64)) (w0 := w) w.heap.size (by rfl) (.tmp 18) (.tmp 25) 72 24 (.slice none 0 0) 24 rfl Tryd.underlying72 info24 rfl (by decide) (by omega) (.slice (some ad331) x5_1.length co18) x5_1 t332 [.slice Ao21 t332.length co21] (fun _ => True) (fun k_ => some k_ = (.slice Ao21 t332.length co21 : Value).ownBlock) rfl rfl ?aP (fun k_ hk_ => ((Kd.R_mono (ok' := fun k_ => ((fun _ => True)) k_ ∧ some k_ ≠ (.slice (some ad331) x5_1.length co18 : Value).ownBlock) (Kd.R_apart' (HO334.out) (Kd.S_typed HO_5.out) (by decide)) (fun k_ hk => ⟨trivial, hk.2⟩))).1 k_ hk_.symm) ?aF ?aO ?aB ?aS ?aL ?_
   (case aP => exact Kd.M_row (Kd.R_mono (Kd.R_tight rfl (Kd.R_mono (ok' := fun k_ => ((fun _ => True)) k_ ∧ some k_ ≠ (.slice (some ad331) x5_1.length co18 : Value).ownBlock) (Kd.R_apart' (HO334.out) (Kd.S_typed HO_5.out) (by decide)) (fun k_ hk => ⟨trivial, hk.2⟩))) (fun _ h_ => h_)))
   (case aB => exact (xB1 GE330.out HB.out))
   (case aF => exact (fun _ _ => trivial))
   (case aO => exact (by (with_reducible repeat (first | apply Kd.S_alloc | apply Kd.S_drewN | apply Kd.S_drew)); exact Kd.S_mono HO_5.out (fun k_ hk => ⟨trivial, fun e_ => hk.2 e_⟩)))
   (case aS => exact (below_size (xB1 GE330.out HB.out)))
   (case aL => have := LMc13.out; omega)
   intro v336 w20 ho hb hg hat
   rw [← Ny335.out] at ho
   replace BK330 := xA (blk_grown (xK BK330.out) hg (Kd.S_ne HO_5.out BK330.out (by decide)))
   replace HL331_0 := xA (Kd.R_after (ok := (fun k_ => some k_ ≠ (.slice Ao21 t332.length co21 : Value).ownBlock)) (by (with_reducible repeat (first | apply Kd.R_alloc | apply Kd.R_drewN | apply Kd.R_drew)); exact Kd.R_mono HL331_0.out (fun _ hk => ⟨hk.2, hk.1.2⟩)) hg hat)
   replace HB := xA (hb)
   have HO337 := xA (ho)
   clear HO_5 HO334
   clear ho hb hg hat
   refine hK.out _ _ ?_
   clear hK K
   refine xN ?_
   refine xP 9 5 x8a10 ?_
   refine xDn ?_
   try go_wp2
   go_roundg k1
   case measure => have := HK1.out; omega
   case rel => exact ⟨(y335), (wrap64 (x13_1 + 1)), xs, H', ⟨by have := HK1.out; omega⟩, ⟨xS HO337.out⟩, ⟨xB1 GE330.out HB.out⟩⟩
/-! ### impl_output: function 68 -/
def impl_output.f (k : Nat) (l0 : List (S79)) (l1 : List Int) : Option (List Int) := (impl_chain.f k l0 l1).bind fun t338 => (if 0 ≤ (l0.length : Int) then (if (l0.length : Int) < (t338.length : Int) then (some (rd_L6 t338 (l0.length : Int))) else (none)) else (none))
theorem impl_output.mono : ∀ a0 a1 k, LeO (impl_output.f k a0 a1) (impl_output.f (k + 1) a0 a1) := by
 intro a0 a1 k
 have m0 := @impl_chain.mono
 unfold impl_output.f
 exact xM
set_option maxHeartbeats 200000000 in
set_option maxRecDepth 100000 in
theorem impl_output.calls (k : Nat) (A0 : Option Addr) (c0 : Nat) (l0 : List (S79)) (A1 : Option Addr) (c1 : Nat) (l1 : List Int) (r : List Int) (w : World) (hr0 : Kd.C k79 w A0 l0.length l0) (hc0 : l0.length ≤ c0) (hr1 : Kd.C (Kd.int .i64) w A1 l1.length l1) (hc1 : l1.length ≤ c1) (h : impl_output.f k l0 l1 = some r) :
  Calls Tryd.prog 68 #[.slice A0 l0.length c0, .slice A1 l1.length c1] w fun e w' => ∃ v0_ : Value, e = .returned (v0_) ∧ Kd.R (Kd.int .i64) 3 w' w.heap.size (fun _ => True) v0_ r ∧ Below w.heap.size w w' := by
 have HR0 := xA hr0
 have HC0 := xA hc0
 clear hr0 hc0
 have HR1 := xA hr1
 have HC1 := xA hc1
 clear hr1 hc1
 have HB := xA (Below.refl w.heap.size w)
 have H : ((impl_chain.f k l0 l1).bind fun t338 => (if 0 ≤ (l0.length : Int) then (if (l0.length : Int) < (t338.length : Int) then (some (rd_L6 t338 (l0.length : Int))) else (none)) else (none))) = some r := h
 clear h
 replace H := Option.bind_eq_some_iff.mp H
 obtain ⟨t338, A30, H⟩ := H
 (try dsimp only at H)
 have A3 := xA A30
 clear A30
 by_cases c4 : 0 ≤ (l0.length : Int)
 rotate_left
 ·rw [if_neg c4] at H
  exact absurd H (by simp)

 rw [if_pos c4] at H
 have c4b0 : decide (0 ≤ (l0.length : Int)) = true := decide_eq_true c4
 have c4b1 : decide (0 ≤ l0.length) = true := decide_eq_true (by omega)
 clear c4
 by_cases c5 : (l0.length : Int) < (t338.length : Int)
 rotate_left
 ·rw [if_neg c5] at H
  exact absurd H (by simp)
 rw [if_pos c5] at H
 have c5b0 : decide ((l0.length : Int) < (t338.length : Int)) = true := decide_eq_true c5
 have c5b1 : decide (l0.length < t338.length) = true := decide_eq_true (Int.ofNat_lt.mp c5)
 clear c5
 obtain rfl := Option.some.inj H
 go_enter Tryd.func68, Tryd.ntmps68
 go_wp2_with (first | ((with_reducible refine gate_callee (f := 90) rfl ?_); refine goesL_ (some 7) rfl rfl Tryd.func90 (by kernel_rfl) rfl #[.slice A0 l0.length c0, .slice A1 l1.length c1] rfl (by (try simp only [List.map_toArray, List.map_cons, List.map_nil]); first | done | rfl | (simp only [List.length_drop, List.length_take]; rfl)) ?_; (with_reducible refine (impl_chain.calls k _ _ l0 _ _ l1 t338 _ ?side1 ?side2 ?side3 ?side4 A3.out).mono ?_); (case side1 => exact xC HR0.out); (case side2 => exact HC0.out); (case side3 => exact xC HR1.out); (case side4 => exact HC1.out); rintro e w6 ⟨v339, rfl, ho0, hb⟩; refine ⟨_, rfl, ?_⟩; have n0_ := xA (Kd.S_lower ho0 (below_size (xB HB.out))); have n1_ := xA (below_step (xB HB.out) hb); clear HB; have HO340 := n0_; have HB := n1_; clear n0_ n1_; (try clear hb); (try clear ho0); obtain ⟨Ao7, co7, eo7⟩ := Kd.S_slice HO340.out; subst eo7; have p341 : 0 ≤ ((l0.length : Int) : Int) := of_decide_eq_true (by first | (with_reducible assumption) | assumption); have q341 : (l0.length : Int) < (t338.length : Int) := of_decide_eq_true (by first | (with_reducible assumption) | assumption); obtain ⟨ad341, A341_0, c341_0, e341, hx341_0, hl341_0, hi341_0⟩ := at_L6 (Kd.S_reads' HO340.out).2.2 (l0.length : Int) p341 q341; cases e341; obtain ⟨ce341, hce341, hMe341, hcc341⟩ := Kd.S_get HO340.out [] (l0.length : Int) p341 (by first | exact q341 | exact of_decide_eq_true (by first | (with_reducible assumption) | assumption) | (have e_ := (Kd.S_reads' HO340.out).1; omega)); obtain ⟨ve341_0, rfl, ge341_0⟩ := hMe341; have hv341_0 := hcc341 0 _ rfl; rw [Nat.add_zero, show ((Kd.slice 3 (Kd.int .i64))).sz = 1 from rfl, Nat.mul_one] at hv341_0; replace hv341_0 := Option.some.inj (hv341_0.symm.trans hx341_0); rw [hv341_0] at ge341_0; have HL341_0 := xA (show Kd.R (Kd.int .i64) 3 _ _ _ _ (rd_L6 t338 (l0.length : Int)) from ge341_0); clear hv341_0 ge341_0; clear hcc341 hce341; have HR341_0 := xA hi341_0; have HC341_0 := xA hl341_0; clear hi341_0 hl341_0; (try simp only [Go.IntWalk.toNatUp] at hx341_0); replace p341 := eq_true p341; replace q341 := eq_true q341))
 go_ret
 exact ⟨_, xr, by (with_reducible repeat (first | apply Kd.R_alloc | apply Kd.R_drewN | apply Kd.R_drew)); exact Kd.R_mono HL341_0.out (fun _ hk => trivial), xB HB.out⟩
/-! ### impl_inOrder: function 69 -/
def impl_inOrder.l0 : Nat → List (S79) → List (S79) → List Int → Int → Int → Option ((List (S79)))
 | 0, _, _, _, _, _ => none
 | k + 1, x0, x5, x9, x10, x11 => if x11 < x10 then (if 0 ≤ x11 then (if x11 < (x9.length : Int) then (if 0 ≤ (rd x9 x11) then (if (rd x9 x11) < (x0.length : Int) then (if x5.length < 3518437208883 then (impl_inOrder.l0 k x0 (x5 ++ [(⟨(rd_T79 x0 (rd x9 x11)).f0, (rd_T79 x0 (rd x9 x11)).f1, (rd_T79 x0 (rd x9 x11)).f2, (⟨(rd_T79 x0 (rd x9 x11)).f3.f0, (rd_T79 x0 (rd x9 x11)).f3.f1⟩ : S77)⟩ : S79)]) x9 x10 (wrap64 (x11 + 1))) else (none)) else (none)) else (none)) else (none)) else (none)) else (some x5)
def impl_inOrder.f (k : Nat) (l0 : List (S79)) (l1 : List Int) : Option ((List (S79))) := impl_inOrder.l0 k l0 (([] : List (S79))) l1 (l1.length : Int) 0
theorem impl_inOrder.mono_l : ∀ k, (∀ y0 y1 y2 y3 y4, LeO (impl_inOrder.l0 k y0 y1 y2 y3 y4) (impl_inOrder.l0 (k + 1) y0 y1 y2 y3 y4))
 | 0 => fun _ _ _ _ _ r h => by simp [impl_inOrder.l0] at h
 | k + 1 => by
  have ih0 := impl_inOrder.mono_l k
  intros
  unfold impl_inOrder.l0
  exact xM
theorem impl_inOrder.mono : ∀ a0 a1 k, LeO (impl_inOrder.f k a0 a1) (impl_inOrder.f (k + 1) a0 a1) := by
 intro a0 a1 k
 have ih0 := impl_inOrder.mono_l k
 unfold impl_inOrder.f
 exact xM
set_option maxHeartbeats 200000000 in
set_option maxRecDepth 100000 in
theorem impl_inOrder.calls (k : Nat) (A0 : Option Addr) (c0 : Nat) (l0 : List (S79)) (A1 : Option Addr) (c1 : Nat) (l1 : List Int) (r : List (S79)) (w : World) (hr0 : Kd.C k79 w A0 l0.length l0) (hc0 : l0.length ≤ c0) (hr1 : Kd.C (Kd.int .i64) w A1 l1.length l1) (hc1 : l1.length ≤ c1) (h : impl_inOrder.f k l0 l1 = some r) :
  Calls Tryd.prog 69 #[.slice A0 l0.length c0, .slice A1 l1.length c1] w fun e w' => ∃ v0_ : Value, e = .returned (v0_) ∧ Kd.R k79 79 w' w.heap.size (fun _ => True) v0_ r ∧ Below w.heap.size w w' := by
 have hu79 := Tryd.underlying79
 have HR0 := xA hr0
 have HC0 := xA hc0
 clear hr0 hc0
 have HR1 := xA hr1
 have HC1 := xA hc1
 clear hr1 hc1
 have HB := xA (Below.refl w.heap.size w)
 have H : (impl_inOrder.l0 k l0 (([] : List (S79))) l1 (l1.length : Int) 0) = some r := h
 clear h
 obtain ⟨y342, hy342⟩ : ∃ y_ : List (S79), y_ = (([] : List (S79))) := ⟨_, rfl⟩
 replace H : (impl_inOrder.l0 k l0 y342 l1 (l1.length : Int) 0) = some r := by first | (rw [hy342]; with_reducible exact H) | (have H2_ := (Option.bind_some _ _).symm.trans H; rw [hy342]; with_reducible exact H2_) | (have H2_ := (Option.bind_some _ _).symm.trans H; with_reducible exact H2_) | with_reducible exact H | (rw [hy342]; exact H) | exact H
 have Ny342 := xA hy342
 clear hy342
 have H' := xA H
 clear H
 go_enter Tryd.func69, Tryd.ntmps69
 go_wp2_with (first | ((with_reducible refine gate_dst (N := 8) rfl ?_); refine Kd.R_lit k79 _ 79 ?hg (N := 8) ?hd (xs := ([] : List (S79))) (inner := []) (ok := fun _ => True) (okp := fun _ => True) ?hr ?hp (fun _ hk => hk) trivial (Below.refl _ _) (Nat.le_refl _) (by simp) ?_; (case hd => rfl); (case hg => rfl); (case hr => first | (go_simp; done) | (go_simp; rfl)); (case hp => exact (Reps.none _ _)); intro v343 w3 ho4 hb hg_ hnew_; clear hg_ hnew_; (first | rw [← Ny342.out] at ho4 | (simp only [Int.reduceToNat] at ho4; rw [← Ny342.out] at ho4)); have n0_ := xA (Kd.R_lower ho4 (below_size (xB HB.out))); have n1_ := xA (below_step (xB HB.out) hb); clear HB; have HO344 := n0_; have HB := n1_; clear n0_ n1_; clear hb ho4))
 go_loopg [5, 11] k (fun kq v5 v11 w' => ∃ (x5_1 : List (S79)) (x11_1 : Int), v11 = .int .i64 x11_1 ∧ Aside0 (impl_inOrder.l0 kq l0 x5_1 l1 (l1.length : Int) x11_1 = some r) ∧ Aside0 (kq ≤ k) ∧ Aside0 (Kd.R k79 79 w' w.heap.size (fun _ => True) v5 x5_1) ∧ Aside0 (Below w.heap.size w w'))
 case atStart => exact ⟨(y342), (0), xs, H', ⟨Nat.le_refl _⟩, ⟨xR HO344.out⟩, ⟨xB HB.out⟩⟩
 case round =>
  clear H'
  try clear c1
  obtain ⟨x5_1, x11_1, rfl, HA, HK1, HO_5, HB⟩ := hrel
  cases gk with
  | zero => exact absurd HA.out (by simp [impl_inOrder.l0])
  | succ k1 =>
   have H := HA.out
   clear HA
   simp only [impl_inOrder.l0] at H
   by_cases c5 : x11_1 < (l1.length : Int)
   rotate_left
   ·rw [if_neg c5] at H
    have c5b0 : decide (x11_1 < (l1.length : Int)) = false := decide_eq_false c5
    clear c5
    obtain rfl := Option.some.inj H
    go_wp2
    go_ret
    exact ⟨_, xr, xR HO_5.out, xB HB.out⟩

   rw [if_pos c5] at H
   have c5b0 : decide (x11_1 < (l1.length : Int)) = true := decide_eq_true c5
   clear c5
   by_cases c6 : 0 ≤ x11_1
   rotate_left
   ·rw [if_neg c6] at H
    exact absurd H (by simp)
   rw [if_pos c6] at H
   have c6b0 : decide (0 ≤ x11_1) = true := decide_eq_true c6
   clear c6
   by_cases c7 : x11_1 < (l1.length : Int)
   rotate_left
   ·rw [if_neg c7] at H
    exact absurd H (by simp)
   rw [if_pos c7] at H
   have c7b0 : decide (x11_1 < (l1.length : Int)) = true := decide_eq_true c7
   clear c7
   by_cases c8 : 0 ≤ (rd l1 x11_1)
   rotate_left
   ·rw [if_neg c8] at H
    exact absurd H (by simp)
   rw [if_pos c8] at H
   have c8b0 : decide (0 ≤ (rd l1 x11_1)) = true := decide_eq_true c8
   clear c8
   by_cases c9 : (rd l1 x11_1) < (l0.length : Int)
   rotate_left
   ·rw [if_neg c9] at H
    exact absurd H (by simp)
   rw [if_pos c9] at H
   have c9b0 : decide ((rd l1 x11_1) < (l0.length : Int)) = true := decide_eq_true c9
   clear c9
   by_cases c10 : x5_1.length < 3518437208883
   rotate_left
   ·rw [if_neg c10] at H
    exact absurd H (by simp)
   rw [if_pos c10] at H
   have LMc10 := xA c10
   clear c10
   obtain ⟨y347, hy347⟩ : ∃ y_ : List (S79), y_ = (x5_1 ++ [(⟨(rd_T79 l0 (rd l1 x11_1)).f0, (rd_T79 l0 (rd l1 x11_1)).f1, (rd_T79 l0 (rd l1 x11_1)).f2, (⟨(rd_T79 l0 (rd l1 x11_1)).f3.f0, (rd_T79 l0 (rd l1 x11_1)).f3.f1⟩ : S77)⟩ : S79)]) := ⟨_, rfl⟩
   replace H : (impl_inOrder.l0 k1 l0 y347 l1 (l1.length : Int) (wrap64 (x11_1 + 1))) = some r := by first | (rw [hy347]; with_reducible exact H) | (have H2_ := (Option.bind_some _ _).symm.trans H; rw [hy347]; with_reducible exact H2_) | (have H2_ := (Option.bind_some _ _).symm.trans H; with_reducible exact H2_) | with_reducible exact H | (rw [hy347]; exact H) | exact H
   have Ny347 := xA hy347
   clear hy347
   have H' := xA H
   clear H
   have p345 : 0 ≤ (x11_1 : Int) := of_decide_eq_true (by first | (with_reducible assumption) | assumption)
   have q345 : x11_1 < (l1.length : Int) := of_decide_eq_true (by first | (with_reducible assumption) | assumption)
   obtain ⟨ad345, e345, hx345_0⟩ := Kd.at_int HR1.out x11_1 p345 q345
   cases e345
   replace hx345_0 := (HB.out.cell (World.block_lt_of_cell? w _ hx345_0)).trans hx345_0
   replace p345 := eq_true p345
   replace q345 := eq_true q345
   have p346 : 0 ≤ ((rd l1 x11_1) : Int) := of_decide_eq_true (by first | (with_reducible assumption) | assumption)
   have q346 : (rd l1 x11_1) < (l0.length : Int) := of_decide_eq_true (by first | (with_reducible assumption) | assumption)
   obtain ⟨ad346, e346, hx346_0, hx346_1, hx346_2, hx346_3, hx346_4⟩ := at_T79 HR0.out (rd l1 x11_1) p346 q346
   cases e346
   replace hx346_0 := (HB.out.cell (World.block_lt_of_cell? w _ hx346_0)).trans hx346_0
   replace hx346_1 := (HB.out.cell (World.block_lt_of_cell? w _ hx346_1)).trans hx346_1
   replace hx346_2 := (HB.out.cell (World.block_lt_of_cell? w _ hx346_2)).trans hx346_2
   replace hx346_3 := (HB.out.cell (World.block_lt_of_cell? w _ hx346_3)).trans hx346_3
   replace hx346_4 := (HB.out.cell (World.block_lt_of_cell? w _ hx346_4)).trans hx346_4
   replace p346 := eq_true p346
   replace q346 := eq_true q346
   go_wp2_with (first | ((with_reducible refine gate_builtin (b := .append) (xs := #[.tmp 15, .tmp 20]) rfl ?_); at_builtin; refine Kd.R_append k79 (w0 := w) w.heap.size rfl (.tmp 15) (.tmp 20) 42 79 (.agg #[(.int .i64 0), (.int .i64 0), (.int .i64 0), (.int .i64 0), (.bool false)]) 40 rfl Tryd.underlying42 info79 rfl (by decide) (by omega) u5 x5_1 (⟨(rd_T79 l0 (rd l1 x11_1)).f0, (rd_T79 l0 (rd l1 x11_1)).f1, (rd_T79 l0 (rd l1 x11_1)).f2, (⟨(rd_T79 l0 (rd l1 x11_1)).f3.f0, (rd_T79 l0 (rd l1 x11_1)).f3.f1⟩ : S77)⟩ : S79) [.int .i64 ((rd_T79 l0 (rd l1 x11_1)).f0), .int .i64 ((rd_T79 l0 (rd l1 x11_1)).f1), .int .i64 ((rd_T79 l0 (rd l1 x11_1)).f2), .int .i64 ((rd_T79 l0 (rd l1 x11_1)).f3.f0), .bool ((rd_T79 l0 (rd l1 x11_1)).f3.f1)] (fun _ => True) (fun _ => False) rfl rfl ?aP (fun _ hk => hk.elim) ?aF ?aO ?aB ?aS ?aL ?_; (case aP => exact k79_mkM _ _ _ (⟨(rd_T79 l0 (rd l1 x11_1)).f0, (rd_T79 l0 (rd l1 x11_1)).f1, (rd_T79 l0 (rd l1 x11_1)).f2, (⟨(rd_T79 l0 (rd l1 x11_1)).f3.f0, (rd_T79 l0 (rd l1 x11_1)).f3.f1⟩ : S77)⟩ : S79)); (case aB => exact (xB HB.out)); (case aF => exact (fun _ _ => trivial)); (case aO => exact (xR HO_5.out)); (case aS => exact (below_size (xB HB.out))); (case aL => have := LMc10.out; omega); intro v348 w11 ho hb hg hat; rw [← Ny347.out] at ho; have n0_ := xA (hb); have n1_ := xA (ho); clear HB; clear HO_5; have HB := n0_; have HO349 := n1_; clear n0_ n1_; clear ho hb hg hat))
   go_roundg k1
   case measure => have := HK1.out; omega
   case rel => exact ⟨(y347), (wrap64 (x11_1 + 1)), xs, H', ⟨by have := HK1.out; omega⟩, ⟨xR HO349.out⟩, ⟨xB HB.out⟩⟩
/-! ### impl_CountOutputs: function 34 -/
def impl_CountOutputs_D (l : List ByteArray) : DataW Unit := l.foldl (fun m s => m.put (.string s.data.toList) (.lit (.bool true))) (.map [])
theorem impl_CountOutputs_D.put (l : List ByteArray) (s : ByteArray) : impl_CountOutputs_D (l ++ [s]) = (impl_CountOutputs_D l).put (.string s.data.toList) (.lit (.bool true)) := by simp [impl_CountOutputs_D]
theorem impl_CountOutputs.lawK : Go.Maps.Keyed Tryd.prog 9 := Go.Maps.string_keyed Tryd.underlying9
theorem impl_CountOutputs.om {H : Type} {P : Program} {k : TypeId} {R : Value → Option (DataW H × List MemPlace)} {b n : Nat} {D : DataW H} {w w1 : World} (h : w.ownsMap P k R b n D) (hb : Below w.heap.size w w1) : w1.ownsMap P k R b n D := by
 obtain ⟨es, clock, h1, h2⟩ := h
 exact ⟨es, clock, blk_below h1 hb, h2⟩
theorem impl_CountOutputs.keep {H : Type} {P : Program} {kt : TypeId} {R : Value → Option (DataW H × List MemPlace)} {b n : Nat} {D : DataW H} {w w1 : World} {α : Type} {d : Kd α} {e base : Nat} {ok : Nat → Prop} {v : Value} {xs : List α} (hM : w.ownsMap P kt R b n D) (h : Kd.S d e w base ok v xs) (hg : w.grownBy w1 (some b)) : Kd.S d e w1 base ok v xs := by
 obtain ⟨es, clock, hb, _⟩ := hM
 exact Kd.S_mono (Kd.S_move (Kd.S_bound h) (fun k hk => hg.block k hk.2.2.1 (fun he => by
  obtain rfl : k = b := Option.some.inj he
  obtain ⟨_, _, _, q, hq, cells, hc⟩ := hk
  rw [hb] at hc
  cases hc))) (fun _ hk => hk.1)
mutual
def impl_CountOutputs.j0 : Nat → List (S79) → List Int → Bool → Option (Int × Bool)
 | 0, _, _, _ => none
 | k + 1, x0, x1, x16 => if x16 = true then (some (0, false)) else ((impl_orders.f k (x0.length : Int)).bind fun t355 => (impl_CountOutputs.l0 k x0 x1 (([] : List ByteArray)) t355 (t355.length : Int) 0))
def impl_CountOutputs.l0 : Nat → List (S79) → List Int → List ByteArray → List (List Int) → Int → Int → Option (Int × Bool)
 | 0, _, _, _, _, _, _ => none
 | k + 1, x0, x1, x6, x20, x21, x22 => if x22 < x21 then (if 0 ≤ x22 then (if x22 < (x20.length : Int) then ((impl_inOrder.f k x0 (rd_L6 x20 x22)).bind fun t359 => ((impl_output.f k t359 x1).bind fun t362 => ((impl_listText.f k t362).bind fun t365 => (if (x6.length < 8796093022208 ∧ t365.size ≤ 9223372036854775807) then (impl_CountOutputs.l0 k x0 x1 (x6 ++ [t365]) x20 x21 (wrap64 (x22 + 1))) else (none))))) else (none)) else (none)) else (some (((Go.Maps.size (impl_CountOutputs_D x6) : Nat) : Int), true))
end
def impl_CountOutputs.f (k : Nat) (l0 : List (S79)) (l1 : List Int) : Option (Int × Bool) := (impl_areParts.f k l0).bind fun t350 => (if t350 = true then ((impl_isSignal.f k l1).bind fun t351 => (impl_CountOutputs.j0 k l0 l1 (!t351))) else (impl_CountOutputs.j0 k l0 l1 true))
theorem impl_CountOutputs.mono_l : ∀ k, (∀ y0 y1 y2, LeO (impl_CountOutputs.j0 k y0 y1 y2) (impl_CountOutputs.j0 (k + 1) y0 y1 y2)) ∧ (∀ y0 y1 y2 y3 y4 y5, LeO (impl_CountOutputs.l0 k y0 y1 y2 y3 y4 y5) (impl_CountOutputs.l0 (k + 1) y0 y1 y2 y3 y4 y5))
 | 0 => ⟨fun _ _ _ r h => by simp [impl_CountOutputs.j0] at h, fun _ _ _ _ _ _ r h => by simp [impl_CountOutputs.l0] at h⟩
 | k + 1 => by
  obtain ⟨ih0, ih1⟩ := impl_CountOutputs.mono_l k
  have m0 := @impl_areParts.mono
  have m1 := @impl_inOrder.mono
  have m2 := @impl_isSignal.mono
  have m3 := @impl_listText.mono
  have m4 := @impl_orders.mono
  have m5 := @impl_output.mono
  refine ⟨?_, ?_⟩ <;> intros
  ·unfold impl_CountOutputs.j0; exact xM
  ·unfold impl_CountOutputs.l0; exact xM
theorem impl_CountOutputs.mono : ∀ a0 a1 k, LeO (impl_CountOutputs.f k a0 a1) (impl_CountOutputs.f (k + 1) a0 a1) := by
 intro a0 a1 k
 obtain ⟨ih0, ih1⟩ := impl_CountOutputs.mono_l k
 have m0 := @impl_areParts.mono
 have m1 := @impl_inOrder.mono
 have m2 := @impl_isSignal.mono
 have m3 := @impl_listText.mono
 have m4 := @impl_orders.mono
 have m5 := @impl_output.mono
 unfold impl_CountOutputs.f
 exact xM
set_option maxHeartbeats 200000000 in
set_option maxRecDepth 100000 in
theorem impl_CountOutputs.calls (k : Nat) (A0 : Option Addr) (c0 : Nat) (l0 : List (S79)) (A1 : Option Addr) (c1 : Nat) (l1 : List Int) (r1 : Int) (r2 : Bool) (w : World) (hr0 : Kd.C k79 w A0 l0.length l0) (hc0 : l0.length ≤ c0) (hr1 : Kd.C (Kd.int .i64) w A1 l1.length l1) (hc1 : l1.length ≤ c1) (hgl_ : GLob w) (h : impl_CountOutputs.f k l0 l1 = some (r1, r2)) :
  Calls Tryd.prog 34 #[.slice A0 l0.length c0, .slice A1 l1.length c1] w fun e w' => e = .returned (.tuple #[.int .i64 r1, .bool r2]) ∧ Below w.heap.size w w' := by
 have HGL := xA hgl_
 clear hgl_
 have HR0 := xA hr0
 have HC0 := xA hc0
 clear hr0 hc0
 have HR1 := xA hr1
 have HC1 := xA hc1
 clear hr1 hc1
 have HB := xA (Below.refl w.heap.size w)
 have hmm := @run_makeMap Tryd.prog
 have H : ((impl_areParts.f k l0).bind fun t350 => (if t350 = true then ((impl_isSignal.f k l1).bind fun t351 => (impl_CountOutputs.j0 k l0 l1 (!t351))) else (impl_CountOutputs.j0 k l0 l1 true))) = some (r1, r2) := h
 clear h
 have HC3 := xA H
 clear H
 go_enter Tryd.func34, Tryd.ntmps34
 go_upto_region 1 with (fail)
 go_cut [16] from 9 to 9 (fun v16 wc => ∃ (kq : Nat) (x16_2 : Bool), v16 = .bool x16_2 ∧ Aside0 (impl_CountOutputs.j0 kq l0 l1 x16_2 = some (r1, r2)) ∧ Aside0 (kq ≤ k) ∧ Aside0 (Below w.heap.size w wc))
 case first => as_aux_lemma =>
  have H := HC3.out
  clear HC3
  replace H := Option.bind_eq_some_iff.mp H
  obtain ⟨t350, A40, H⟩ := H
  (try dsimp only at H)
  have A4 := xA A40
  clear A40
  by_cases c5 : t350 = true
  rotate_left
  ·replace c5 := Bool.eq_false_iff.mpr c5
   subst c5
   have H1 := H
   rw [if_neg (show ¬ (false = true) by decide)] at H1
   clear H
   have H := H1
   clear H1
   have H' := xA H
   clear H
   go_wp2_with (first | ((with_reducible refine gate_callee (f := 65) rfl ?_); refine goesL_ (some 10) rfl rfl Tryd.func65 (by kernel_rfl) rfl #[.slice A0 l0.length c0] rfl (by (try simp only [List.map_toArray, List.map_cons, List.map_nil]); first | done | rfl | (simp only [List.length_drop, List.length_take]; rfl)) ?_; (with_reducible refine (impl_areParts.calls k _ _ l0 false _ ?side1 ?side2 A4.out).mono ?_); (case side1 => exact xC (Kd.C_below HR0.out HB.out)); (case side2 => exact HC0.out); rintro e w8 ⟨rfl, hb⟩; refine ⟨_, rfl, ?_⟩; have n0_ := xA (below_step (xB HB.out) hb); clear HB; have HB := n0_; clear n0_; (try clear hb)))
   go_meet
   case rel => exact ⟨_, (true), xs, H', ⟨by first | omega | exact Nat.le_refl _⟩, ⟨xB HB.out⟩⟩
  subst c5
  have H1 := H
  rw [if_pos rfl] at H1
  clear H
  have H := H1
  clear H1
  replace H := Option.bind_eq_some_iff.mp H
  obtain ⟨t351, A60, H⟩ := H
  (try dsimp only at H)
  have A6 := xA A60
  clear A60
  have H' := xA H
  clear H
  go_wp2_with (first | ((with_reducible refine gate_callee (f := 65) rfl ?_); refine goesL_ (some 10) rfl rfl Tryd.func65 (by kernel_rfl) rfl #[.slice A0 l0.length c0] rfl (by (try simp only [List.map_toArray, List.map_cons, List.map_nil]); first | done | rfl | (simp only [List.length_drop, List.length_take]; rfl)) ?_; (with_reducible refine (impl_areParts.calls k _ _ l0 true _ ?side1 ?side2 A4.out).mono ?_); (case side1 => exact xC (Kd.C_below HR0.out HB.out)); (case side2 => exact HC0.out); rintro e w7 ⟨rfl, hb⟩; refine ⟨_, rfl, ?_⟩; have n0_ := xA (below_step (xB HB.out) hb); clear HB; have HB := n0_; clear n0_; (try clear hb)) | (go_at_call 41; (with_reducible refine (impl_isSignal.calls k _ _ l1 t351 _ ?side1 ?side2 A6.out).mono ?_); (case side1 => exact xC (Kd.C_below HR1.out HB.out)); (case side2 => exact HC1.out); rintro e w' ⟨rfl, ⟨nd, rfl⟩⟩))
  go_meet
  case rel => exact ⟨_, (!t351), xs, H', ⟨by first | omega | exact Nat.le_refl _⟩, ⟨xB HB.out⟩⟩
 case rest => as_aux_lemma =>
  clear HC3
  try clear c1
  obtain ⟨kq, x16_2, rfl, HA, HJ2, HB⟩ := hcut
  cases kq with
  | zero => exact absurd HA.out (by simp [impl_CountOutputs.j0])
  | succ kj2 =>
   have H := HA.out
   clear HA
   simp only [impl_CountOutputs.j0] at H
   by_cases c9 : x16_2 = true
   ·subst c9
    have H1 := H
    rw [if_pos rfl] at H1
    clear H
    have H := H1
    clear H1
    simp only [Option.some.injEq, Prod.mk.injEq] at H
    obtain ⟨rfl, rfl⟩ := H
    go_wp2
    go_ret2
    exact ⟨xr, xB HB.out⟩
   replace c9 := Bool.eq_false_iff.mpr c9
   subst c9
   have H1 := H
   rw [if_neg (show ¬ (false = true) by decide)] at H1
   clear H
   have H := H1
   clear H1
   obtain ⟨y352, hy352⟩ : ∃ y_ : List ByteArray, y_ = (([] : List ByteArray)) := ⟨_, rfl⟩
   replace H : ((impl_orders.f kj2 (l0.length : Int)).bind fun t355 => (impl_CountOutputs.l0 kj2 l0 l1 y352 t355 (t355.length : Int) 0)) = some (r1, r2) := by first | (rw [hy352]; with_reducible exact H) | (have H2_ := (Option.bind_some _ _).symm.trans H; rw [hy352]; with_reducible exact H2_) | (have H2_ := (Option.bind_some _ _).symm.trans H; with_reducible exact H2_) | with_reducible exact H | (rw [hy352]; exact H) | exact H
   have Ny352 := xA hy352
   clear hy352
   replace H := Option.bind_eq_some_iff.mp H
   obtain ⟨t355, A100, H⟩ := H
   (try dsimp only at H)
   have A10 := xA A100
   clear A100
   have H' := xA H
   clear H
   go_wp2_with (first | ((with_reducible refine gate_callee (f := 66) rfl ?_); refine goesL_ (some 20) rfl rfl Tryd.func66 (by kernel_rfl) rfl #[.int .i64 (l0.length : Int)] rfl (by (try simp only [List.map_toArray, List.map_cons, List.map_nil]); first | done | rfl | (simp only [List.length_drop, List.length_take]; rfl)) ?_; (with_reducible refine (impl_orders.calls kj2 (l0.length : Int) t355 _ A10.out).mono ?_); rintro e w13 ⟨v356, rfl, ho0, hb⟩; refine ⟨_, rfl, ?_⟩; have n0_ := xA (And.intro (impl_CountOutputs.om (World.ownsMap_made _ Tryd.prog 9 (plainElem (H := Unit) Tryd.prog 4)) hb) (below_size (xB HB.out))); have n1_ := xA (Kd.S_lower ho0 (below_size (xB HB.out))); have n2_ := xA (below_step (xB HB.out) hb); clear HB; have HO354 := n0_; have HO357 := n1_; have HB := n2_; clear n0_ n1_ n2_; (try clear hb); (try clear ho0); obtain ⟨Ao14, co14, eo14⟩ := Kd.S_slice HO357.out; subst eo14))
   go_loopg [22] kj2 (fun kq v22 w' => ∃ (x6_2 : List ByteArray) (x22_2 : Int), v22 = .int .i64 x22_2 ∧ Aside0 (impl_CountOutputs.l0 kq l0 l1 x6_2 t355 (t355.length : Int) x22_2 = some (r1, r2)) ∧ Aside0 (kq ≤ kj2) ∧ Aside0 (w'.ownsMap Tryd.prog 9 (plainElem (H := Unit) Tryd.prog 4) wc.heap.size x6_2.length (impl_CountOutputs_D x6_2) ∧ w.heap.size ≤ wc.heap.size) ∧ Aside0 (Kd.S (Kd.slice 3 (Kd.int .i64)) 24 w' w.heap.size (fun _ => True) (.slice Ao14 t355.length co14) t355) ∧ Aside0 (Below w.heap.size w w'))
   case atStart => exact ⟨(y352), (0), xs, H', ⟨Nat.le_refl _⟩, ⟨by rw [Ny352.out]; exact HO354.out⟩, ⟨xS HO357.out⟩, ⟨xB HB.out⟩⟩
   case round =>
    clear H'
    try clear c9
    obtain ⟨x6_2, x22_2, rfl, HA, HK2, HO_6, HO_20, HB⟩ := hrel
    cases gk with
    | zero => exact absurd HA.out (by simp [impl_CountOutputs.l0])
    | succ k2 =>
     have H := HA.out
     clear HA
     simp only [impl_CountOutputs.l0] at H
     by_cases c15 : x22_2 < (t355.length : Int)
     rotate_left
     ·rw [if_neg c15] at H
      have c15b0 : decide (x22_2 < (t355.length : Int)) = false := decide_eq_false c15
      clear c15
      simp only [Option.some.injEq, Prod.mk.injEq] at H
      obtain ⟨rfl, rfl⟩ := H
      go_wp2_with (at_len; refine wpList_len_own _ rfl _ 85 rfl 9 4 Tryd.underlying85 (plainElem (H := Unit) Tryd.prog 4) wc.heap.size _ _ rfl HO_6.out.1 ?_)
      go_ret2
      exact ⟨xr, xB HB.out⟩

     rw [if_pos c15] at H
     have c15b0 : decide (x22_2 < (t355.length : Int)) = true := decide_eq_true c15
     clear c15
     by_cases c16 : 0 ≤ x22_2
     rotate_left
     ·rw [if_neg c16] at H
      exact absurd H (by simp)
     rw [if_pos c16] at H
     have c16b0 : decide (0 ≤ x22_2) = true := decide_eq_true c16
     clear c16
     by_cases c17 : x22_2 < (t355.length : Int)
     rotate_left
     ·rw [if_neg c17] at H
      exact absurd H (by simp)
     rw [if_pos c17] at H
     have c17b0 : decide (x22_2 < (t355.length : Int)) = true := decide_eq_true c17
     clear c17
     replace H := Option.bind_eq_some_iff.mp H
     obtain ⟨t359, A180, H⟩ := H
     (try dsimp only at H)
     have A18 := xA A180
     clear A180
     replace H := Option.bind_eq_some_iff.mp H
     obtain ⟨t362, A190, H⟩ := H
     (try dsimp only at H)
     have A19 := xA A190
     clear A190
     replace H := Option.bind_eq_some_iff.mp H
     obtain ⟨t365, A200, H⟩ := H
     (try dsimp only at H)
     have A20 := xA A200
     clear A200
     by_cases c21 : (x6_2.length < 8796093022208 ∧ t365.size ≤ 9223372036854775807)
     rotate_left
     ·rw [if_neg c21] at H
      exact absurd H (by simp)
     rw [if_pos c21] at H
     have LMc21 := xA c21
     clear c21
     obtain ⟨y366, hy366⟩ : ∃ y_ : List ByteArray, y_ = (x6_2 ++ [t365]) := ⟨_, rfl⟩
     replace H : (impl_CountOutputs.l0 k2 l0 l1 y366 t355 (t355.length : Int) (wrap64 (x22_2 + 1))) = some (r1, r2) := by first | (rw [hy366]; with_reducible exact H) | (have H2_ := (Option.bind_some _ _).symm.trans H; rw [hy366]; with_reducible exact H2_) | (have H2_ := (Option.bind_some _ _).symm.trans H; with_reducible exact H2_) | with_reducible exact H | (rw [hy366]; exact H) | exact H
     have Ny366 := xA hy366
     clear hy366
     have H' := xA H
     clear H
     have p358 : 0 ≤ (x22_2 : Int) := of_decide_eq_true (by first | (with_reducible assumption) | assumption)
     have q358 : x22_2 < (t355.length : Int) := of_decide_eq_true (by first | (with_reducible assumption) | assumption)
     obtain ⟨ad358, A358_0, c358_0, e358, hx358_0, hl358_0, hi358_0⟩ := at_L6 (Kd.S_reads' HO_20.out).2.2 x22_2 p358 q358
     cases e358
     obtain ⟨ce358, hce358, hMe358, hcc358⟩ := Kd.S_get HO_20.out [] x22_2 p358 (by first | exact q358 | exact of_decide_eq_true (by first | (with_reducible assumption) | assumption) | (have e_ := (Kd.S_reads' HO_20.out).1; omega))
     obtain ⟨ve358_0, rfl, ge358_0⟩ := hMe358
     have hv358_0 := hcc358 0 _ rfl
     rw [Nat.add_zero, show ((Kd.slice 3 (Kd.int .i64))).sz = 1 from rfl, Nat.mul_one] at hv358_0
     replace hv358_0 := Option.some.inj (hv358_0.symm.trans hx358_0)
     rw [hv358_0] at ge358_0
     have HL358_0 := xA (show Kd.R (Kd.int .i64) 3 _ _ _ _ (rd_L6 t355 x22_2) from ge358_0)
     clear hv358_0 ge358_0
     clear hcc358 hce358
     have HR358_0 := xA hi358_0
     have HC358_0 := xA hl358_0
     clear hi358_0 hl358_0
     replace p358 := eq_true p358
     replace q358 := eq_true q358
     go_wp2_with (first | ((with_reducible refine gate_callee (f := 69) rfl ?_); refine goesL_ (some 29) rfl rfl Tryd.func69 (by kernel_rfl) rfl #[.slice A0 l0.length c0, .slice A358_0 (rd_L6 t355 x22_2).length c358_0] rfl (by (try simp only [List.map_toArray, List.map_cons, List.map_nil]); first | done | rfl | (simp only [List.length_drop, List.length_take]; rfl)) ?_; (with_reducible refine (impl_inOrder.calls k2 _ _ l0 _ _ (rd_L6 t355 x22_2) t359 _ ?side1 ?side2 ?side3 ?side4 A18.out).mono ?_); (case side1 => exact xC (Kd.C_below HR0.out HB.out)); (case side2 => exact HC0.out); (case side3 => repeat (first | exact (by repeat (first | (with_reducible exact HR358_0.out) | (with_reducible refine Kd.C_alloc ?_ _) | (with_reducible refine Kd.C_drewN ?_ _) | (with_reducible refine Kd.C_drew ?_) | exact HR358_0.out)) | (with_reducible refine Kd.C_alloc ?_ _) | (with_reducible refine Kd.C_drewN ?_ _) | (with_reducible refine Kd.C_drew ?_))); (case side4 => exact HC358_0.out); rintro e w22 ⟨v360, rfl, ho0, hb⟩; refine ⟨_, rfl, ?_⟩; have n0_ := xA (And.intro (impl_CountOutputs.om HO_6.out.1 hb) HO_6.out.2); have n1_ := xA (Kd.S_below (xS HO_20.out) hb); have n2_ := xA (Kd.R_below (by (with_reducible repeat (first | apply Kd.R_alloc | apply Kd.R_drewN | apply Kd.R_drew)); exact HL358_0.out) hb); have n3_ := xA (Kd.R_lower ho0 (below_size (xB HB.out))); have n4_ := xA (Kd.C_below (by repeat (first | (with_reducible exact HR358_0.out) | (with_reducible refine Kd.C_alloc ?_ _) | (with_reducible refine Kd.C_drewN ?_ _) | (with_reducible refine Kd.C_drew ?_) | exact HR358_0.out)) hb); have n5_ := xA (below_step (xB HB.out) hb); clear HO_6; clear HO_20; clear HL358_0; clear HR358_0; clear HB; have HO_6 := n0_; have HO_20 := n1_; have HL358_0 := n2_; have HO361 := n3_; have HR358_0 := n4_; have HB := n5_; clear n0_ n1_ n2_ n3_ n4_ n5_; (try clear hb); (try clear ho0); obtain ⟨Ao23, co23, eo23⟩ := Kd.R_slice HO361.out; subst eo23) | ((with_reducible refine gate_callee (f := 68) rfl ?_); refine goesL_ (some 31) rfl rfl Tryd.func68 (by kernel_rfl) rfl #[.slice Ao23 t359.length co23, .slice A1 l1.length c1] rfl (by (try simp only [List.map_toArray, List.map_cons, List.map_nil]); first | done | rfl | (simp only [List.length_drop, List.length_take]; rfl)) ?_; (with_reducible refine (impl_output.calls k2 _ _ t359 _ _ l1 t362 _ ?side1 ?side2 ?side3 ?side4 A19.out).mono ?_); (case side1 => exact xC ((Kd.R_reads' HO361.out).2.2)); (case side2 => exact (Kd.R_reads' HO361.out).2.1); (case side3 => exact xC (Kd.C_below HR1.out HB.out)); (case side4 => exact HC1.out); rintro e w24 ⟨v363, rfl, ho0, hb⟩; refine ⟨_, rfl, ?_⟩; have n0_ := xA (And.intro (impl_CountOutputs.om HO_6.out.1 hb) HO_6.out.2); have n1_ := xA (Kd.S_elder' (xS HO_20.out) (Kd.R_base ho0) hb); have n2_ := xA (Kd.R_elder' (by (with_reducible repeat (first | apply Kd.R_alloc | apply Kd.R_drewN | apply Kd.R_drew)); exact HL358_0.out) (Kd.R_base ho0) hb); have n3_ := xA (Kd.R_below (xR HO361.out) hb); have n4_ := xA (Kd.R_lower (Kd.R_new' ho0 (Kd.R_lt (by (with_reducible repeat (first | apply Kd.R_alloc | apply Kd.R_drewN | apply Kd.R_drew)); exact HL358_0.out))) (below_size (xB HB.out))); have n5_ := xA (Kd.C_below (by repeat (first | (with_reducible exact HR358_0.out) | (with_reducible refine Kd.C_alloc ?_ _) | (with_reducible refine Kd.C_drewN ?_ _) | (with_reducible refine Kd.C_drew ?_) | exact HR358_0.out)) hb); have n6_ := xA (below_step (xB HB.out) hb); clear HO_6; clear HO_20; clear HL358_0; clear HO361; clear HR358_0; clear HB; have HO_6 := n0_; have HO_20 := n1_; have HL358_0 := n2_; have HO361 := n3_; have HO364 := n4_; have HR358_0 := n5_; have HB := n6_; clear n0_ n1_ n2_ n3_ n4_ n5_ n6_; (try clear hb); (try clear ho0); obtain ⟨Ao25, co25, eo25⟩ := Kd.R_slice HO364.out; subst eo25) | ((with_reducible refine gate_callee (f := 67) rfl ?_); refine goesL_ (some 32) rfl rfl Tryd.func67 (by kernel_rfl) rfl #[.slice Ao25 t362.length co25] rfl (by (try simp only [List.map_toArray, List.map_cons, List.map_nil]); first | done | rfl | (simp only [List.length_drop, List.length_take]; rfl)) ?_; (with_reducible refine (impl_listText.calls k2 _ _ t362 t365 _ ?side1 ?side2 ?sideg A20.out).mono ?_); (case sideg => exact GLob.below HGL.out (xB HB.out)); (case side1 => exact xC ((Kd.R_reads' HO364.out).2.2)); (case side2 => exact (Kd.R_reads' HO364.out).2.1); rintro e w26 ⟨rfl, hb⟩; refine ⟨_, rfl, ?_⟩; have n0_ := xA (And.intro (impl_CountOutputs.om HO_6.out.1 hb) HO_6.out.2); have n1_ := xA (Kd.S_below (xS HO_20.out) hb); have n2_ := xA (Kd.R_below (by (with_reducible repeat (first | apply Kd.R_alloc | apply Kd.R_drewN | apply Kd.R_drew)); exact HL358_0.out) hb); have n3_ := xA (Kd.R_below (xR HO361.out) hb); have n4_ := xA (Kd.R_below (xR HO364.out) hb); have n5_ := xA (Kd.C_below (by repeat (first | (with_reducible exact HR358_0.out) | (with_reducible refine Kd.C_alloc ?_ _) | (with_reducible refine Kd.C_drewN ?_ _) | (with_reducible refine Kd.C_drew ?_) | exact HR358_0.out)) hb); have n6_ := xA (below_step (xB HB.out) hb); clear HO_6; clear HO_20; clear HL358_0; clear HO361; clear HO364; clear HR358_0; clear HB; have HO_6 := n0_; have HO_20 := n1_; have HL358_0 := n2_; have HO361 := n3_; have HO364 := n4_; have HR358_0 := n5_; have HB := n6_; clear n0_ n1_ n2_ n3_ n4_ n5_ n6_; (try clear hb)) | (at_mapUpdate; refine wpList_mapUpdate_own _ rfl _ _ _ 85 rfl 9 4 impl_CountOutputs.lawK Tryd.underlying85 (plainElem (H := Unit) Tryd.prog 4) wc.heap.size x6_2.length (impl_CountOutputs_D x6_2) rfl HO_6.out.1 (by have := LMc21.out; unfold maxLen; omega) _ _ _ rfl rfl (Go.WideMaps.keyOf_string_mk Tryd.underlying9 LMc21.out.2) _ [] (plainElem_bool Tryd.underlying4 true) ?_; intro w27 hown hg; have n0_ := xA (impl_CountOutputs.keep HO_6.out.1 (xS HO_20.out) hg); have n4_ := xA ((show Below w.heap.size w _ from (xB HB.out)).grown hg (below_size (xB HB.out)) (fun j hj => by cases hj; exact HO_6.out.2)); have n5_ := xA (And.intro (show w27.ownsMap Tryd.prog 9 (plainElem (H := Unit) Tryd.prog 4) wc.heap.size y366.length (impl_CountOutputs_D y366) by rw [Ny366.out, impl_CountOutputs_D.put, List.length_append]; exact hown) HO_6.out.2); clear HO_20 HB HO_6 hown hg; have HO_20 := n0_; have HB := n4_; have HO368 := n5_; clear n0_ n4_ n5_))
     go_roundg k2
     case measure => have := HJ2.out; have := HK2.out; omega
     case rel => exact ⟨(y366), (wrap64 (x22_2 + 1)), xs, H', ⟨by have := HJ2.out; have := HK2.out; omega⟩, ⟨HO368.out⟩, ⟨by (with_reducible repeat (first | apply Kd.S_alloc | apply Kd.S_drewN | apply Kd.S_drew)); exact Kd.S_mono HO_20.out (fun _ hk => trivial)⟩, ⟨xB HB.out⟩⟩
/-! ### laws_eqWord: function 91 -/
def laws_eqWord.f (a0_0 : Int) (a0_1 : Bool) (a1_0 : Int) (a1_1 : Bool) : Option (Bool) := if a0_0 = a1_0 then (if (a0_1 != a1_1) = true then (some false) else (some true)) else (some false)
set_option maxHeartbeats 200000000 in
set_option maxRecDepth 100000 in
theorem laws_eqWord.calls (a0_0 : Int) (a0_1 : Bool) (a1_0 : Int) (a1_1 : Bool) (r : Bool) (w : World) (h : laws_eqWord.f a0_0 a0_1 a1_0 a1_1 = some r) :
  Calls Tryd.prog 91 #[.agg #[.int .i64 a0_0, .bool a0_1], .agg #[.int .i64 a1_0, .bool a1_1]] w fun e w' => e = .returned (.bool r) ∧ Below w.heap.size w w' := by
 have hu77 := Tryd.underlying77
 have HB := xA (Below.refl w.heap.size w)
 have H : (if a0_0 = a1_0 then (if (a0_1 != a1_1) = true then (some false) else (some true)) else (some false)) = some r := h
 clear h
 by_cases c3 : a0_0 = a1_0
 rotate_left
 ·rw [if_neg c3] at H
  have c3b0 : (a0_0 == a1_0) = false := beq_eq_false_iff_ne.mpr c3
  have c3b1 : (a0_0 != a1_0) = true := bne_iff_ne.mpr c3
  obtain rfl := Option.some.inj H
  go_enter Tryd.func91, Tryd.ntmps91
  go_wp2_with (first | ((with_reducible refine gate_dst (N := 2) rfl ?_); refine box_event ?hg (N := 2) ?hd (cs := #[.int .i64 a0_0, .bool a0_1]) (t := 77) ?hr ?_; (case hd => rfl); (case hg => rfl); (case hr => first | (go_simp; done) | (go_simp; rfl)); intro gb369 hg w15 hbox hb; have n0_ := xA (below_step (xB HB.out) hb); have n1_ := xA (hbox); have n2_ := xgw hg (below_size (xB HB.out)); have n3_ := xgw hg (below_size (xB HB.out)); clear HB; have HB := n0_; have BK369 := n1_; have GW369 := n2_; have GE369 := n3_; clear n0_ n1_ n2_ n3_; clear hb hbox hg) | ((with_reducible refine gate_dst (N := 3) rfl ?_); refine box_event ?hg (N := 3) ?hd (cs := #[.int .i64 a1_0, .bool a1_1]) (t := 77) ?hr ?_; (case hd => rfl); (case hg => rfl); (case hr => first | (go_simp; done) | (go_simp; rfl)); intro gb370 hg w16 hbox hb; have n0_ := xkb BK369 hb; have n1_ := xA (below_step (xB1 GE369.out HB.out) hb); have n2_ := xA (hbox); have n3_ := xgw hg (below_size (xB1 GE369.out HB.out)); have n4_ := xgw hg (below_size (xB1 GE369.out HB.out)); have n5_ := xnl hg BK369; have n6_ := xng hg BK369; clear BK369; clear HB; have BK369 := n0_; have HB := n1_; have BK370 := n2_; have GW370 := n3_; have GE370 := n4_; have NB369_370 := n5_; have NB370_369 := n6_; clear n0_ n1_ n2_ n3_ n4_ n5_ n6_; clear hb hbox hg; have hnb17 := NB369_370.out; have hnc17 := NB370_369.out; replace hz369 := blk_cell BK369.out; replace hy369 := blk_frozen BK369.out; replace hz370 := blk_cell BK370.out; replace hy370 := blk_frozen BK370.out))
  go_ret
  exact ⟨xr, xB2 GE369.out GE370.out HB.out⟩

 rw [if_pos c3] at H
 have c3b0 : (a0_0 == a1_0) = true := beq_iff_eq.mpr c3
 have c3b1 : (a0_0 != a1_0) = false := bne_eq_false_iff_eq.mpr c3
 clear c3
 by_cases c4 : (a0_1 != a1_1) = true
 rotate_left
 ·rw [if_neg c4] at H
  have c4b0 : (a0_1 != a1_1) = false := by simpa using c4
  (try (have c4b1 : decide (a0_1 = a1_1) = true := by simpa using c4))
  (try (have c4b2 : (a0_1 == a1_1) = true := by simpa using c4))
  clear c4
  obtain rfl := Option.some.inj H
  go_enter Tryd.func91, Tryd.ntmps91
  go_wp2_with (first | ((with_reducible refine gate_dst (N := 2) rfl ?_); refine box_event ?hg (N := 2) ?hd (cs := #[.int .i64 a0_0, .bool a0_1]) (t := 77) ?hr ?_; (case hd => rfl); (case hg => rfl); (case hr => first | (go_simp; done) | (go_simp; rfl)); intro gb369 hg w10 hbox hb; have n0_ := xA (below_step (xB HB.out) hb); have n1_ := xA (hbox); have n2_ := xgw hg (below_size (xB HB.out)); have n3_ := xgw hg (below_size (xB HB.out)); clear HB; have HB := n0_; have BK369 := n1_; have GW369 := n2_; have GE369 := n3_; clear n0_ n1_ n2_ n3_; clear hb hbox hg) | ((with_reducible refine gate_dst (N := 3) rfl ?_); refine box_event ?hg (N := 3) ?hd (cs := #[.int .i64 a1_0, .bool a1_1]) (t := 77) ?hr ?_; (case hd => rfl); (case hg => rfl); (case hr => first | (go_simp; done) | (go_simp; rfl)); intro gb370 hg w11 hbox hb; have n0_ := xkb BK369 hb; have n1_ := xA (below_step (xB1 GE369.out HB.out) hb); have n2_ := xA (hbox); have n3_ := xgw hg (below_size (xB1 GE369.out HB.out)); have n4_ := xgw hg (below_size (xB1 GE369.out HB.out)); have n5_ := xnl hg BK369; have n6_ := xng hg BK369; clear BK369; clear HB; have BK369 := n0_; have HB := n1_; have BK370 := n2_; have GW370 := n3_; have GE370 := n4_; have NB369_370 := n5_; have NB370_369 := n6_; clear n0_ n1_ n2_ n3_ n4_ n5_ n6_; clear hb hbox hg; have hnb12 := NB369_370.out; have hnc12 := NB370_369.out; replace hz369 := blk_cell BK369.out; replace hy369 := blk_frozen BK369.out; replace hz370 := blk_cell BK370.out; replace hy370 := blk_frozen BK370.out))
  go_ret
  exact ⟨xr, xB2 GE369.out GE370.out HB.out⟩
 rw [if_pos c4] at H
 have c4b0 : (a0_1 != a1_1) = true := c4
 (try (have c4b1 : decide (a0_1 = a1_1) = false := by simpa using c4))
 (try (have c4b2 : (a0_1 == a1_1) = false := by simpa using c4))
 (try (have c4b3 : ¬ (a0_1 = a1_1) := by simpa using c4))
 clear c4
 obtain rfl := Option.some.inj H
 go_enter Tryd.func91, Tryd.ntmps91
 go_wp2_with (first | ((with_reducible refine gate_dst (N := 2) rfl ?_); refine box_event ?hg (N := 2) ?hd (cs := #[.int .i64 a0_0, .bool a0_1]) (t := 77) ?hr ?_; (case hd => rfl); (case hg => rfl); (case hr => first | (go_simp; done) | (go_simp; rfl)); intro gb369 hg w5 hbox hb; have n0_ := xA (below_step (xB HB.out) hb); have n1_ := xA (hbox); have n2_ := xgw hg (below_size (xB HB.out)); have n3_ := xgw hg (below_size (xB HB.out)); clear HB; have HB := n0_; have BK369 := n1_; have GW369 := n2_; have GE369 := n3_; clear n0_ n1_ n2_ n3_; clear hb hbox hg) | ((with_reducible refine gate_dst (N := 3) rfl ?_); refine box_event ?hg (N := 3) ?hd (cs := #[.int .i64 a1_0, .bool a1_1]) (t := 77) ?hr ?_; (case hd => rfl); (case hg => rfl); (case hr => first | (go_simp; done) | (go_simp; rfl)); intro gb370 hg w6 hbox hb; have n0_ := xkb BK369 hb; have n1_ := xA (below_step (xB1 GE369.out HB.out) hb); have n2_ := xA (hbox); have n3_ := xgw hg (below_size (xB1 GE369.out HB.out)); have n4_ := xgw hg (below_size (xB1 GE369.out HB.out)); have n5_ := xnl hg BK369; have n6_ := xng hg BK369; clear BK369; clear HB; have BK369 := n0_; have HB := n1_; have BK370 := n2_; have GW370 := n3_; have GE370 := n4_; have NB369_370 := n5_; have NB370_369 := n6_; clear n0_ n1_ n2_ n3_ n4_ n5_ n6_; clear hb hbox hg; have hnb7 := NB369_370.out; have hnc7 := NB370_369.out; replace hz369 := blk_cell BK369.out; replace hy369 := blk_frozen BK369.out; replace hz370 := blk_cell BK370.out; replace hy370 := blk_frozen BK370.out))
 go_ret
 exact ⟨xr, xB2 GE369.out GE370.out HB.out⟩
end Go.Proofs.YtjplcongellcmaaDoor.PFnExactCountOutputs
