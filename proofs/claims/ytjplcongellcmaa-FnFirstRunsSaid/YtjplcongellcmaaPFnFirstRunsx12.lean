/- What each Go function that the statement FnFirstRuns reaches answers, proved call by call. No condition beyond those that the theorems print. (Written by wip/tools/xprint.py of this repo, over the kit's print.) -/
import Derived.Test.YtjplcongellcmaaPFnFirstRunsx0
import Derived.Test.YtjplcongellcmaaPFnFirstRunsx1
import Derived.Test.YtjplcongellcmaaPFnFirstRunsx2
import Derived.Test.YtjplcongellcmaaPFnFirstRunsx3
import Derived.Test.YtjplcongellcmaaPFnFirstRunsx4
import Derived.Test.YtjplcongellcmaaPFnFirstRunsx5
import Derived.Test.YtjplcongellcmaaPFnFirstRunsx6
import Derived.Test.YtjplcongellcmaaPFnFirstRunsx7
import Derived.Test.YtjplcongellcmaaPFnFirstRunsx11
namespace Go.Proofs.Ytjplcongellcmaa.PFnFirstRuns
open Go.RowKit Go.Proofs.YtjplcongellcmaaW.PrintWords Go.Proofs.YtjplcongellcmaaW.PrintLast Go.Proofs.YtjplcongellcmaaW.PrintMore
attribute [local go_sem] max2_int min2_int max_two min_two max_three min_three max_four min_four   -- for this text's walks alone
set_option linter.unusedVariables false
set_option linter.unusedSimpArgs false
def x12a0 : Array Bool := #[Zz,Zz,Zz,Zz,Zz,Zz,Zz,Zz,Zz,Zz]
def x12a1 : Array Bool := #[Zz,Yy,Zz,Zz,Zz,Zz,Zz,Zz,Zz,Zz]
def x12a2 : Array Bool := #[Zz,Yy,Yy,Zz,Zz,Zz,Zz,Zz,Zz,Zz]
def x12a3 : Array Bool := #[Zz,Yy,Yy,Zz,Zz,Yy,Zz,Zz,Zz,Zz]
def x12a4 : Array Bool := #[Yy,Yy,Yy,Zz,Zz,Yy,Zz,Zz,Zz,Zz]
def x12a5 : Array Bool := #[Yy,Yy,Yy,Yy,Zz,Yy,Zz,Zz,Zz,Zz]
def x12a6 : Array Bool := #[Yy,Yy,Yy,Yy,Yy,Yy,Zz,Zz,Zz,Zz]
def x12a7 : Array Bool := #[Yy,Yy,Yy,Yy,Yy,Yy,Yy,Zz,Zz,Zz]
def x12a8 : Array Bool := #[Yy,Yy,Yy,Yy,Yy,Yy,Yy,Yy,Zz,Zz]
def x12a9 : Array Bool := #[Yy,Yy,Yy,Yy,Yy,Yy,Yy,Yy,Yy,Zz]
def x12a10 : Array Bool := #[Yy,Yy,Yy,Yy,Yy,Yy,Yy,Yy,Yy,Yy]
def x12a11 : Array Bool := #[Zz,Zz,Zz,Zz,Zz,Zz,Zz,Zz]
def x12a12 : Array Bool := #[Yy,Zz,Zz,Zz,Zz,Zz,Zz,Zz]
def x12a13 : Array Bool := #[Yy,Zz,Zz,Yy,Zz,Zz,Zz,Zz]
def x12a14 : Array Bool := #[Yy,Zz,Zz,Yy,Yy,Zz,Zz,Zz]
def x12a15 : Array Bool := #[Yy,Yy,Zz,Yy,Yy,Zz,Zz,Zz]
def x12a16 : Array Bool := #[Yy,Yy,Yy,Yy,Yy,Zz,Zz,Zz]
def x12a17 : Array Bool := #[Yy,Yy,Yy,Yy,Yy,Yy,Zz,Zz]
def x12a18 : Array Bool := #[Yy,Yy,Yy,Yy,Yy,Yy,Yy,Zz]
def x12a19 : Array Bool := #[Yy,Yy,Yy,Yy,Yy,Yy,Yy,Yy]

/-! ### spec_DrawImpulseOf: function 100 -/
def spec_DrawImpulseOf.f (l0 : List Int) : Option (Int × Int × Int × Int × Bool × Int × Int) := (spec_l1Cur_first.f l0 0 0 9).bind fun bt449 => ((spec_l1Cur_sample.f l0 bt449.2.2.2.2.2.1 bt449.2.2.2.2.2.2 60).bind fun bt456 => ((spec_l1Cur_among.f l0 bt456.2.1 bt456.2.2 (([0, 1, 5, 12, 64, 65, (-1)] : List Int))).bind fun bt462 => (some (bt449.1, bt449.2.1, bt449.2.2.1, bt449.2.2.2.1, bt449.2.2.2.2.1, bt456.1, bt462.1))))
set_option maxHeartbeats 200000000 in
set_option maxRecDepth 100000 in
theorem spec_DrawImpulseOf.calls (A0 : Option Addr) (c0 : Nat) (l0 : List Int) (r1 : Int) (r2 : Int) (r3 : Int) (r4 : Int) (r5 : Bool) (r6 : Int) (r7 : Int) (w : World) (hr0 : Kd.C (Kd.int .u8) w A0 l0.length l0) (hc0 : l0.length ≤ c0) (h : spec_DrawImpulseOf.f l0 = some (r1, r2, r3, r4, r5, r6, r7)) :
  Calls Try.prog 100 #[.slice A0 l0.length c0] w fun e w' => e = .returned (.tuple #[.agg #[.int .i64 r1, .int .i64 r2, .int .i64 r3, .int .i64 r4, .bool r5], .int .i64 r6, .int .i64 r7]) ∧ Below w.heap.size w w' := by
 have hu62 := Try.underlying62
 have hu129 := Try.underlying129
 have HR0 := xA hr0
 have HC0 := xA hc0
 clear hr0 hc0
 have HB := xA (Below.refl w.heap.size w)
 have H : ((spec_l1Cur_first.f l0 0 0 9).bind fun bt449 => ((spec_l1Cur_sample.f l0 bt449.2.2.2.2.2.1 bt449.2.2.2.2.2.2 60).bind fun bt456 => ((spec_l1Cur_among.f l0 bt456.2.1 bt456.2.2 (([0, 1, 5, 12, 64, 65, (-1)] : List Int))).bind fun bt462 => (some (bt449.1, bt449.2.1, bt449.2.2.1, bt449.2.2.2.1, bt449.2.2.2.2.1, bt456.1, bt462.1))))) = some (r1, r2, r3, r4, r5, r6, r7) := h
 clear h
 replace H := Option.bind_eq_some_iff.mp H
 obtain ⟨⟨t449, t450, t451, t452, t453, t454, t455⟩, A20, H⟩ := H
 (try dsimp only at H)
 have A2 := xA A20
 clear A20
 replace H := Option.bind_eq_some_iff.mp H
 obtain ⟨⟨t456, t457, t458⟩, A30, H⟩ := H
 (try dsimp only at H)
 have A3 := xA A30
 clear A30
 obtain ⟨y459, hy459⟩ : ∃ y_ : List Int, y_ = (([0, 1, 5, 12, 64, 65, (-1)] : List Int)) := ⟨_, rfl⟩
 replace H : ((spec_l1Cur_among.f l0 t457 t458 y459).bind fun bt462 => (some (t449, t450, t451, t452, t453, t456, bt462.1))) = some (r1, r2, r3, r4, r5, r6, r7) := by first | (rw [hy459]; with_reducible exact H) | (have H2_ := (Option.bind_some _ _).symm.trans H; rw [hy459]; with_reducible exact H2_) | (have H2_ := (Option.bind_some _ _).symm.trans H; with_reducible exact H2_) | with_reducible exact H | (rw [hy459]; exact H) | exact H
 have Ny459 := xA hy459
 clear hy459
 replace H := Option.bind_eq_some_iff.mp H
 obtain ⟨⟨t462, t463, t464⟩, A40, H⟩ := H
 (try dsimp only at H)
 have A4 := xA A40
 clear A40
 simp only [Option.some.injEq, Prod.mk.injEq] at H
 obtain ⟨rfl, rfl, rfl, rfl, rfl, rfl, rfl⟩ := H
 go_enter Try.func100, Try.ntmps100
 go_wp2_with (first | (refine xq rfl ?_; first | (refine xG (some 10) Try.func281 #[.pointer (some ⟨gb448, 0, none⟩), .int .i64 9] ?_; (with_reducible refine (spec_l1Cur_first.calls gb448 l0 0 0 9 t449 t450 t451 t452 t453 t454 t455 w _ ?side1 ?side2 A2.out).mono ?_); (case side1 => exact xJ129_12_1 NB448_447.out HI448.out); (case side2 => exact xB2 (IsS129.ge HI448.out) GE447.out HB.out); rintro e w7 ⟨rfl, hi, hb, hk⟩; refine ⟨_, rfl, ?_⟩; replace BK447 := xkk hk BK447 NB447_448; replace HB := xA (hb); replace HI448 := xA (hi); (try clear hb hk hi)) | (refine xG (some 12) Try.func301 #[.pointer (some ⟨gb448, 0, none⟩), .int .i64 60] ?_; (with_reducible refine (spec_l1Cur_sample.calls gb448 l0 t454 t455 60 t456 t457 t458 w _ ?side1 ?side2 A3.out).mono ?_); (case side1 => exact xJ129_12_1 NB448_447.out HI448.out); (case side2 => exact xB2 (IsS129.ge HI448.out) GE447.out HB.out); rintro e w8 ⟨rfl, hi, hb, hk⟩; refine ⟨_, rfl, ?_⟩; replace BK447 := xkk hk BK447 NB447_448; replace HB := xA (hb); replace HI448 := xA (hi); (try clear hb hk hi)) | (refine xG (some 15) Try.func228 #[.pointer (some ⟨gb448, 0, none⟩), .slice Ao11 y459.length co11] ?_; (with_reducible refine (spec_l1Cur_among.calls gb448 l0 t457 t458 _ _ y459 t462 t463 t464 w _ ?side1 ?side2 ?side3 ?side4 ?side5 A4.out).mono ?_); (case side1 => exact xJ129_12_1 NB448_447.out HI448.out); (case side2 => exact xB2 (IsS129.ge HI448.out) GE447.out HB.out); (case side3 => exact xC ((Kd.R_reads' HO461.out).2.2)); (case side4 => exact (Kd.R_reads' HO461.out).2.1); (case side5 => exact far_slice (IsS129.own_ne HI448.out HO461.out (by decide))); rintro e w12 ⟨rfl, hi, hb, hk⟩; refine ⟨_, rfl, ?_⟩; replace BK447 := xkk hk BK447 NB447_448; replace HO461 := xA (Kd.R_mono (Kd.R_keep (IsS129.apart (show IsS129 w _ gb448 l0 t457 t458 from xJ129_12_1 NB448_447.out HI448.out) (xR HO461.out) (by decide)) hk (fun _ h => h.2)) (fun _ h => h.1)); replace HB := xA (hb); replace HI448 := xA (hi); (try clear hb hk hi); have hnb13 := NB447_448.out; have hnc13 := NB448_447.out; replace hz447 := blk_cell BK447.out; replace hy447 := blk_frozen BK447.out)) | (refine xg 2 rfl ?_; refine xV 2 #[.int .i64 0, .int .i64 0, .int .i64 0, .int .i64 0, .bool false] 62 ?_; intro gb447 hg w5 hbox hb; have BK447 := xA (hbox); have GW447 := xgw hg (below_size (xB HB.out)); have GE447 := GW447; replace HB := xA (below_step (xB HB.out) hb); clear hb hbox hg) | (refine xg 8 rfl ?_; refine xV 8 #[.slice A0 l0.length c0, .int .i64 0, .int .u64 0] 129 ?_; intro gb448 hg w6 hbox hb; have HI448 := xA ((show IsS129 w _ gb448 l0 0 0 from ⟨_, _, hbox, (by rw [hg]; exact (below_size (xB1 GE447.out HB.out)) : w.heap.size ≤ gb448), HR0.out⟩)); replace HB := xA (below_step (xB1 GE447.out HB.out) hb); have NB447_448 := xnl hg BK447; have NB448_447 := xng hg BK447; replace BK447 := xkb BK447 hb; clear hb hbox hg) | ((with_reducible refine gate_dst (N := 14) rfl ?_); refine Kd.R_lit (Kd.int .i64) _ 3 ?hg (N := 14) ?hd (xs := ([0, 1, 5, 12, 64, 65, (-1)] : List Int)) (inner := [.int .i64 0, .int .i64 1, .int .i64 5, .int .i64 12, .int .i64 64, .int .i64 65, .int .i64 (-1)]) (ok := fun _ => True) (okp := fun _ => True) ?hr ?hp (fun _ hk => hk) trivial (Below.refl _ _) (Nat.le_refl _) (by simp) ?_; (case hd => rfl); (case hg => rfl); (case hr => first | (go_simp; done) | (go_simp; rfl)); (case hp => exact (Reps.one (show Kd.M (Kd.int .i64) _ _ _ 0 [.int .i64 0] from rfl) (Reps.one (show Kd.M (Kd.int .i64) _ _ _ 1 [.int .i64 1] from rfl) (Reps.one (show Kd.M (Kd.int .i64) _ _ _ 5 [.int .i64 5] from rfl) (Reps.one (show Kd.M (Kd.int .i64) _ _ _ 12 [.int .i64 12] from rfl) (Reps.one (show Kd.M (Kd.int .i64) _ _ _ 64 [.int .i64 64] from rfl) (Reps.one (show Kd.M (Kd.int .i64) _ _ _ 65 [.int .i64 65] from rfl) (Reps.one (show Kd.M (Kd.int .i64) _ _ _ (-1) [.int .i64 (-1)] from rfl) (Reps.none _ _))))))))); intro v460 w9 ho10 hb hg_ hnew_; clear hg_ hnew_; (first | rw [← Ny459.out] at ho10 | (simp only [Int.reduceToNat] at ho10; rw [← Ny459.out] at ho10)); have HO461 := xA (Kd.R_lower ho10 (below_size (xB2 (IsS129.ge HI448.out) GE447.out HB.out))); replace BK447 := xkb BK447 hb; replace HB := xA (below_step (xB2 (IsS129.ge HI448.out) GE447.out HB.out) hb); replace HI448 := xA (IsS129.below (xJ129_12_1 NB448_447.out HI448.out) hb); clear hb ho10; obtain ⟨Ao11, co11, eo11⟩ := Kd.R_slice HO461.out; subst eo11))
 refine bodyPost_ret (results_ctt rfl _ _ gb447 62 #[.int .i64 t449, .int .i64 t450, .int .i64 t451, .int .i64 t452, .bool t453] (0, 0) _ rfl (xPt0 BK447.out) Try.underlying62 rfl (by kernel_rfl)) rfl ?_
 exact ⟨xr, xB2 (IsS129.ge HI448.out) GE447.out HB.out⟩

/-! ### impl_ImpulseOf: function 101 -/
def impl_ImpulseOf.j0 : Nat → Int → Int → Bool → Int → Int → Int → Int → Bool → Option (List Int × Bool)
 | 0, _, _, _, _, _, _, _, _ => none
 | k + 1, x1, x2, x21, x466000, x466001, x466002, x466003, x466004 => if x21 = true then (some (([] : List Int), false)) else (if 0 ≤ x2 then (if (x2 : Int).toNat ≤ 35184372088832 then ((some (List.replicate (x2 : Int).toNat 0 : List Int)).bind fun y469 => (if x2 > 0 then (if 0 < (y469.length : Int) then ((impl_First_run.f k x466000 x466001 x466002 x466003 x466004 0 (y469.set (0 : Int).toNat x1)).bind fun t473 => (some (t473, true))) else (none)) else ((impl_First_run.f k x466000 x466001 x466002 x466003 x466004 0 y469).bind fun t476 => (some (t476, true))))) else (none)) else (none))
def impl_ImpulseOf.f (k : Nat) (a0_0 : Int) (a0_1 : Int) (a0_2 : Int) (a0_3 : Int) (a0_4 : Bool) (a1 : Int) (a2 : Int) : Option (List Int × Bool) := (impl_isFirst.f a0_0 a0_1 a0_2 a0_3 a0_4).bind fun t466 => (if t466 = true then ((impl_isSample.f a1).bind fun t467 => (if t467 = true then ((impl_in.f a2 0 64).bind fun t468 => (impl_ImpulseOf.j0 k a1 a2 (!t468) a0_0 a0_1 a0_2 a0_3 a0_4)) else (impl_ImpulseOf.j0 k a1 a2 true a0_0 a0_1 a0_2 a0_3 a0_4))) else (impl_ImpulseOf.j0 k a1 a2 true a0_0 a0_1 a0_2 a0_3 a0_4))
theorem impl_ImpulseOf.mono_l : ∀ k, (∀ y0 y1 y2 y3 y4 y5 y6 y7, LeO (impl_ImpulseOf.j0 k y0 y1 y2 y3 y4 y5 y6 y7) (impl_ImpulseOf.j0 (k + 1) y0 y1 y2 y3 y4 y5 y6 y7))
 | 0 => fun _ _ _ _ _ _ _ _ r h => by simp [impl_ImpulseOf.j0] at h
 | k + 1 => by
  have ih0 := impl_ImpulseOf.mono_l k
  have m0 := @impl_First_run.mono
  intros
  unfold impl_ImpulseOf.j0
  exact xM
theorem impl_ImpulseOf.mono : ∀ a0 a1 a2 a3 a4 a5 a6 k, LeO (impl_ImpulseOf.f k a0 a1 a2 a3 a4 a5 a6) (impl_ImpulseOf.f (k + 1) a0 a1 a2 a3 a4 a5 a6) := by
 intro a0 a1 a2 a3 a4 a5 a6 k
 have ih0 := impl_ImpulseOf.mono_l k
 have m0 := @impl_First_run.mono
 unfold impl_ImpulseOf.f
 exact xM
set_option maxHeartbeats 200000000 in
set_option maxRecDepth 100000 in
theorem impl_ImpulseOf.calls (k : Nat) (a0_0 : Int) (a0_1 : Int) (a0_2 : Int) (a0_3 : Int) (a0_4 : Bool) (a1 : Int) (a2 : Int) (r1 : List Int) (r2 : Bool) (w : World) (h : impl_ImpulseOf.f k a0_0 a0_1 a0_2 a0_3 a0_4 a1 a2 = some (r1, r2)) :
  Calls Try.prog 101 #[.agg #[.int .i64 a0_0, .int .i64 a0_1, .int .i64 a0_2, .int .i64 a0_3, .bool a0_4], .int .i64 a1, .int .i64 a2] w fun e w' => ∃ v0_ : Value, e = .returned (.tuple #[v0_, .bool r2]) ∧ Kd.R (Kd.int .i64) 3 w' w.heap.size (fun _ => True) v0_ r1 ∧ Below w.heap.size w w' := by
 have hu62 := Try.underlying62
 have HB := xA (Below.refl w.heap.size w)
 have H : ((impl_isFirst.f a0_0 a0_1 a0_2 a0_3 a0_4).bind fun t466 => (if t466 = true then ((impl_isSample.f a1).bind fun t467 => (if t467 = true then ((impl_in.f a2 0 64).bind fun t468 => (impl_ImpulseOf.j0 k a1 a2 (!t468) a0_0 a0_1 a0_2 a0_3 a0_4)) else (impl_ImpulseOf.j0 k a1 a2 true a0_0 a0_1 a0_2 a0_3 a0_4))) else (impl_ImpulseOf.j0 k a1 a2 true a0_0 a0_1 a0_2 a0_3 a0_4))) = some (r1, r2) := h
 clear h
 have HC4 := xA H
 clear H
 go_enter Try.func101, Try.ntmps101
 go_upto_region 1 with (first | (refine xg 3 rfl ?_; refine xV 3 #[.int .i64 a0_0, .int .i64 a0_1, .int .i64 a0_2, .int .i64 a0_3, .bool a0_4] 62 ?_; intro gb465 hg w5 hbox hb; have BK465 := xA (hbox); have GW465 := xgw hg (below_size (xB HB.out)); have GE465 := GW465; replace HB := xA (below_step (xB HB.out) hb); clear hb hbox hg))
 (try simp only [Act.put, List.setIfInBounds_toArray, List.set_cons_zero, List.set_cons_succ])
 go_cut [21] from 9 to 9 (fun v21 wc => ∃ (kq : Nat) (x21_3 : Bool), v21 = .bool x21_3 ∧ Aside0 (impl_ImpulseOf.j0 kq a1 a2 x21_3 a0_0 a0_1 a0_2 a0_3 a0_4 = some (r1, r2)) ∧ Aside0 (kq ≤ k) ∧ Aside0 (wc.heap[gb465]? = some (.cells #[.int .i64 a0_0, .int .i64 a0_1, .int .i64 a0_2, .int .i64 a0_3, .bool a0_4] 62 (0, 0))) ∧ Aside0 (Below w.heap.size w wc))
 case first => as_aux_lemma =>
  have H := HC4.out
  clear HC4
  obtain ⟨t466, A6, H⟩ := xO H
  (try dsimp only at H)
  by_cases c7 : t466 = true
  rotate_left
  ·replace c7 := Bool.eq_false_iff.mpr c7
   subst c7
   rw [if_neg (show ¬ (false = true) by decide)] at H
   have H' := xA H
   clear H
   replace hz465 := blk_cell BK465.out; replace hy465 := blk_frozen BK465.out
   go_wp2_with (first | (refine xG (some 10) Try.func294 #[.agg #[.int .i64 a0_0, .int .i64 a0_1, .int .i64 a0_2, .int .i64 a0_3, .bool a0_4]] ?_; (with_reducible refine (impl_isFirst.calls a0_0 a0_1 a0_2 a0_3 a0_4 false _ A6.out).mono ?_); rintro e w16 ⟨rfl, hb⟩; refine ⟨_, rfl, ?_⟩; replace BK465 := xkb BK465 hb; replace HB := xA (below_step (xB1 GE465.out HB.out) hb); (try clear hb)))
   go_meet
   case rel => exact ⟨_, (true), xs, H', ⟨by first | omega | exact Nat.le_refl _⟩, ⟨xK BK465.out⟩, ⟨xB1 GE465.out HB.out⟩⟩
  subst c7
  rw [if_pos rfl] at H
  obtain ⟨t467, A8, H⟩ := xO H
  (try dsimp only at H)
  by_cases c9 : t467 = true
  rotate_left
  ·replace c9 := Bool.eq_false_iff.mpr c9
   subst c9
   rw [if_neg (show ¬ (false = true) by decide)] at H
   have H' := xA H
   clear H
   replace hz465 := blk_cell BK465.out; replace hy465 := blk_frozen BK465.out
   go_wp2_with (first | (refine xG (some 10) Try.func294 #[.agg #[.int .i64 a0_0, .int .i64 a0_1, .int .i64 a0_2, .int .i64 a0_3, .bool a0_4]] ?_; (with_reducible refine (impl_isFirst.calls a0_0 a0_1 a0_2 a0_3 a0_4 true _ A6.out).mono ?_); rintro e w14 ⟨rfl, hb⟩; refine ⟨_, rfl, ?_⟩; replace BK465 := xkb BK465 hb; replace HB := xA (below_step (xB1 GE465.out HB.out) hb); (try clear hb)) | (go_at_call 300; (with_reducible refine (impl_isSample.calls a1 false _ A8.out).mono ?_); rintro e w' ⟨rfl, ⟨nd, rfl⟩⟩))
   go_meet
   case rel => exact ⟨_, (true), xs, H', ⟨by first | omega | exact Nat.le_refl _⟩, ⟨xK BK465.out⟩, ⟨xB1 GE465.out HB.out⟩⟩
  subst c9
  rw [if_pos rfl] at H
  obtain ⟨t468, A10, H⟩ := xO H
  (try dsimp only at H)
  have H' := xA H
  clear H
  obtain ⟨hcz11_0, hcz11_1, hcz11_2, hcz11_3, hcz11_4, hfz11_0, hfz11_1, hfz11_2, hfz11_3, hfz11_4⟩ := xZ5 BK465.out
  go_wp2_with (first | (refine xG (some 10) Try.func294 #[.agg #[.int .i64 a0_0, .int .i64 a0_1, .int .i64 a0_2, .int .i64 a0_3, .bool a0_4]] ?_; (with_reducible refine (impl_isFirst.calls a0_0 a0_1 a0_2 a0_3 a0_4 true _ A6.out).mono ?_); rintro e w12 ⟨rfl, hb⟩; refine ⟨_, rfl, ?_⟩; replace BK465 := xkb BK465 hb; replace HB := xA (below_step (xB1 GE465.out HB.out) hb); (try clear hb)) | (go_at_call 300; (with_reducible refine (impl_isSample.calls a1 true _ A8.out).mono ?_); rintro e w' ⟨rfl, ⟨nd, rfl⟩⟩) | (go_at_call 223; (with_reducible refine (impl_in.calls a2 0 64 t468 _ A10.out).mono ?_); rintro e w' ⟨rfl, ⟨nd, rfl⟩⟩))
  go_meet
  case rel => exact ⟨_, (!t468), xs, H', ⟨by first | omega | exact Nat.le_refl _⟩, ⟨xK BK465.out⟩, ⟨xB1 GE465.out HB.out⟩⟩
 case rest => as_aux_lemma =>
  clear HC4
  obtain ⟨kq, x21_3, rfl, HA, HJ3, BK465, HB⟩ := hcut
  cases kq with
  | zero => exact absurd HA.out (by simp [impl_ImpulseOf.j0])
  | succ kj3 =>
   have H := HA.out
   clear HA
   simp only [impl_ImpulseOf.j0] at H
   by_cases c17 : x21_3 = true
   ·subst c17
    rw [if_pos rfl] at H
    simp only [Option.some.injEq, Prod.mk.injEq] at H
    obtain ⟨rfl, rfl⟩ := H
    go_wp2
    go_ret2
    exact ⟨_, xr, by first | exact Kd.R_nil _ _ _ _ _ | exact Kd.N_nil _ _ _ _ _ | exact Kd.V_nil _ _ _ _ _ | exact Kd.Q_nil _ _ _ _ _ | exact Kd.S_nil _ _ _ _ _, xB1 GE465.out HB.out⟩
   replace c17 := Bool.eq_false_iff.mpr c17
   subst c17
   rw [if_neg (show ¬ (false = true) by decide)] at H
   by_cases c18 : 0 ≤ a2
   rotate_left
   ·rw [if_neg c18] at H
    exact absurd H (by simp)

   rw [if_pos c18] at H
   have c18b0 := eq_true c18
   have c18b1 : decide (0 ≤ a2) = true := decide_eq_true c18
   clear c18
   by_cases c19 : (a2 : Int).toNat ≤ 35184372088832
   rotate_left
   ·rw [if_neg c19] at H
    exact absurd H (by simp)
   rw [if_pos c19] at H
   have c19b0 := eq_true c19
   have c19b1 : decide ((a2 : Int).toNat ≤ 35184372088832) = true := decide_eq_true c19
   clear c19
   obtain ⟨y469, hy469⟩ : ∃ y_ : List Int, y_ = (List.replicate (a2 : Int).toNat 0) := ⟨_, rfl⟩
   replace H : (if a2 > 0 then (if 0 < (y469.length : Int) then ((impl_First_run.f kj3 a0_0 a0_1 a0_2 a0_3 a0_4 0 (y469.set (0 : Int).toNat a1)).bind fun t473 => (some (t473, true))) else (none)) else ((impl_First_run.f kj3 a0_0 a0_1 a0_2 a0_3 a0_4 0 y469).bind fun t476 => (some (t476, true)))) = some (r1, r2) := by first | (rw [hy469]; with_reducible exact H) | (have H2_ := (Option.bind_some _ _).symm.trans H; rw [hy469]; with_reducible exact H2_) | (have H2_ := (Option.bind_some _ _).symm.trans H; with_reducible exact H2_) | with_reducible exact H | (rw [hy469]; exact H) | exact H
   have Ny469 := xA hy469
   clear hy469
   by_cases c20 : a2 > 0
   rotate_left
   ·rw [if_neg c20] at H
    have c20b0 : decide (0 < a2) = false := decide_eq_false c20
    clear c20
    obtain ⟨t476, A30, H⟩ := xO H
    (try dsimp only at H)
    simp only [Option.some.injEq, Prod.mk.injEq] at H
    obtain ⟨rfl, rfl⟩ := H
    go_wp2_with (first | ((with_reducible refine gate_dst (N := 23) rfl ?_); refine Kd.R_make (Kd.int .i64) _ 3 rfl (N := 23) rfl 24 _ _ rfl a2 rfl rfl Try.underlying24 (.int .i64 0) 8 info3 rfl (by decide) (by omega) 0 (ok := fun _ => True) (okp := fun _ => True) rfl (fun _ hk => hk) trivial (of_decide_eq_true (by first | (with_reducible assumption) | assumption)) (Nat.le_trans (Nat.mul_le_mul_right _ (of_decide_eq_true (by first | (with_reducible assumption) | assumption) : a2.toNat ≤ 35184372088832)) (by omega)) (Below.refl _ _) (Nat.le_refl _) ?_; intro v470 w31 ho32 hb hg_ hnew_; clear hg_ hnew_; (first | rw [← Ny469.out] at ho32 | (simp only [Int.reduceToNat] at ho32; rw [← Ny469.out] at ho32)); have HO471 := xA (Kd.R_lower ho32 (below_size (xB1 GE465.out HB.out))); replace BK465 := xkb BK465 hb; replace HB := xA (below_step (xB1 GE465.out HB.out) hb); clear hb ho32; replace hz465 := blk_cell BK465.out; replace hy465 := blk_frozen BK465.out; obtain ⟨Ao34, co34, eo34⟩ := Kd.R_slice HO471.out; subst eo34) | (refine xG (some 31) Try.func284 #[.agg #[.int .i64 a0_0, .int .i64 a0_1, .int .i64 a0_2, .int .i64 a0_3, .bool a0_4], .int .i64 0, .slice Ao34 y469.length co34] ?_; (with_reducible refine (impl_First_run.calls kj3 a0_0 a0_1 a0_2 a0_3 a0_4 0 _ _ y469 t476 _ ?side1 ?side2 A30.out).mono ?_); (case side1 => exact xC ((Kd.R_reads' HO471.out).2.2)); (case side2 => exact (Kd.R_reads' HO471.out).2.1); rintro e w35 ⟨v477, rfl, ho0, hb⟩; refine ⟨_, rfl, ?_⟩; have HO478 := xA (Kd.R_lower (Kd.R_new' ho0 (Kd.R_lt (xR HO471.out))) (below_size (xB1 GE465.out HB.out))); replace HO471 := xA (Kd.R_elder' (xR HO471.out) (Kd.R_base ho0) hb); replace BK465 := xkb BK465 hb; replace HB := xA (below_step (xB1 GE465.out HB.out) hb); (try clear hb); (try clear ho0)))
    go_ret2
    exact ⟨_, xr, by (with_reducible repeat (first | apply Kd.R_alloc | apply Kd.R_drewN | apply Kd.R_drew)); exact Kd.R_mono HO478.out (fun _ hk => trivial), xB1 GE465.out HB.out⟩
   rw [if_pos c20] at H
   have c20b0 : decide (0 < a2) = true := decide_eq_true c20
   clear c20
   by_cases c21 : 0 < (y469.length : Int)
   rotate_left
   ·rw [if_neg c21] at H
    exact absurd H (by simp)
   rw [if_pos c21] at H
   have c21b0 : decide (0 < (y469.length : Int)) = true := decide_eq_true c21
   have c21b1 : decide (0 < y469.length) = true := decide_eq_true (by omega)
   clear c21
   obtain ⟨y472, hy472⟩ : ∃ y_ : List Int, y_ = (y469.set (0 : Int).toNat a1) := ⟨_, rfl⟩
   replace H : ((impl_First_run.f kj3 a0_0 a0_1 a0_2 a0_3 a0_4 0 y472).bind fun t473 => (some (t473, true))) = some (r1, r2) := by first | (rw [hy472]; with_reducible exact H) | (have H2_ := (Option.bind_some _ _).symm.trans H; rw [hy472]; with_reducible exact H2_) | (have H2_ := (Option.bind_some _ _).symm.trans H; with_reducible exact H2_) | with_reducible exact H | (rw [hy472]; exact H) | exact H
   have Ny472 := xA hy472
   clear hy472
   obtain ⟨t473, A23, H⟩ := xO H
   (try dsimp only at H)
   simp only [Option.some.injEq, Prod.mk.injEq] at H
   obtain ⟨rfl, rfl⟩ := H
   go_wp2_with (first | ((with_reducible refine gate_dst (N := 23) rfl ?_); refine Kd.R_make (Kd.int .i64) _ 3 rfl (N := 23) rfl 24 _ _ rfl a2 rfl rfl Try.underlying24 (.int .i64 0) 8 info3 rfl (by decide) (by omega) 0 (ok := fun _ => True) (okp := fun _ => True) rfl (fun _ hk => hk) trivial (of_decide_eq_true (by first | (with_reducible assumption) | assumption)) (Nat.le_trans (Nat.mul_le_mul_right _ (of_decide_eq_true (by first | (with_reducible assumption) | assumption) : a2.toNat ≤ 35184372088832)) (by omega)) (Below.refl _ _) (Nat.le_refl _) ?_; intro v470 w24 ho25 hb hg_ hnew_; clear hg_ hnew_; (first | rw [← Ny469.out] at ho25 | (simp only [Int.reduceToNat] at ho25; rw [← Ny469.out] at ho25)); have HO471 := xA (Kd.R_lower ho25 (below_size (xB1 GE465.out HB.out))); replace BK465 := xkb BK465 hb; replace HB := xA (below_step (xB1 GE465.out HB.out) hb); clear hb ho25; have p22 : 0 ≤ (0 : Int) := (by omega); have q22 : (0 : Int) < ((y469.length : Int) : Int) := of_decide_eq_true (by first | (with_reducible assumption) | assumption); have qi22 : (0 < y469.length) = True := eq_true (by omega); obtain ⟨go22, co22, eo22, gb22, gl22, cl22, HG22⟩ := Kd.R_form HO471.out (by omega); (first | cases eo22 | (injection eo22 with ea_ en_ ec_; (first | subst ea_ | (injection ea_ with ea_; subst ea_)); subst ec_; clear en_)); have GB22 := xA gb22; have GG22 := xA HG22; clear gb22 gl22 HG22; obtain ⟨hx22_0, hf22_0⟩ := Kd.R_celln 0 HO471.out (0 : Int) p22 q22; (try rw [show ((0 : Int)).toNat = 0 from rfl] at hx22_0); (try simp only [Nat.reduceMul, Nat.zero_mul, Nat.zero_add, Nat.reduceAdd] at hx22_0); (try rw [show ((0 : Int)).toNat = 0 from rfl] at hf22_0); (try simp only [Nat.reduceMul, Nat.zero_mul, Nat.zero_add, Nat.reduceAdd] at hf22_0); replace p22 := eq_true p22; replace q22 := eq_true q22; obtain ⟨hy26_, hz26_⟩ := Kd.R_celln 0 HO471.out (0 : Int) (by omega) (of_decide_eq_true (by first | (with_reducible assumption) | assumption)); (try simp only [Int.reduceToNat, Int.toNat_zero, Int.toNat_ofNat, Nat.reduceMul, Nat.zero_mul, Nat.zero_add] at hy26_ hz26_); (try rw [show ((0 : Int)).toNat = 0 from rfl] at hy26_); (try rw [show ((0 : Int)).toNat = 0 from rfl] at hz26_); have HP26 := Kd.R_putg HO471.out (0 : Int) a1) | ((with_reducible refine gate_store (t := 3) (p := 28) rfl ?_); refine store_event (t := 3) (p := 28) (v := ?vo_w27) (w1 := (w24.setCell ⟨go22, (0 : Int).toNat, none⟩ (.int .i64 a1))) ?hg ?ho ?hn ?hr ?_; (case ho => rfl); (case hg => rfl); (case hn => rfl); (case hr => first | (go_simp; done) | (go_simp; rfl)); intro w27 hw; have hg : w24.grownBy w27 (some go22) := (by rw [hw]; exact HP26.2); have hp_ : Kd.R (Kd.int .i64) 3 w27 w.heap.size (fun _ => True) (.slice (some ⟨go22, 0, none⟩) y469.length co22) y472 := (by rw [hw, Ny472.out]; exact HP26.1); clear HP26; replace BK465 := xA (blk_grown (xK BK465.out) hg (Kd.R_ne HO471.out BK465.out (by decide))); replace HO471 := xA (hp_); replace HB := xA ((by rw [hw]; exact below_set (HB.out) GB22.out : Below w.heap.size w w27)); clear hg hw hp_; replace hz465 := blk_cell BK465.out; replace hy465 := blk_frozen BK465.out) | ((with_reducible refine gate_callee (f := 284) rfl ?_); refine goesL_ (some 31) rfl rfl Try.func284 (by kernel_rfl) rfl #[.agg #[.int .i64 a0_0, .int .i64 a0_1, .int .i64 a0_2, .int .i64 a0_3, .bool a0_4], .int .i64 0, .slice (some ⟨go22, 0, none⟩) y472.length co22] rfl (by (try simp only [List.map_toArray, List.map_cons, List.map_nil]); first | done | (rw [show y472.length = y469.length from (Kd.R_reads' HO471.out).1.symm] <;> rfl) | rfl | (simp only [List.length_drop, List.length_take]; rfl)) ?_; (with_reducible refine (impl_First_run.calls kj3 a0_0 a0_1 a0_2 a0_3 a0_4 0 _ _ y472 t473 _ ?side1 ?side2 A23.out).mono ?_); (case side1 => exact xC ((Kd.R_reads' HO471.out).2.2)); (case side2 => rw [show y472.length = y469.length from (Kd.R_reads' HO471.out).1.symm]; exact (Kd.R_reads' HO471.out).2.1); rintro e w29 ⟨v474, rfl, ho0, hb⟩; refine ⟨_, rfl, ?_⟩; have HO475 := xA (Kd.R_lower (Kd.R_new' ho0 (Kd.R_lt (xR HO471.out))) (below_size (xB1 GE465.out HB.out))); replace HO471 := xA (Kd.R_elder' (xR HO471.out) (Kd.R_base ho0) hb); replace BK465 := xkb BK465 hb; replace HB := xA (below_step (xB1 GE465.out HB.out) hb); (try clear hb); (try clear ho0)))
   go_ret2
   exact ⟨_, xr, by (with_reducible repeat (first | apply Kd.R_alloc | apply Kd.R_drewN | apply Kd.R_drew)); exact Kd.R_mono HO475.out (fun _ hk => trivial), xB1 GE465.out HB.out⟩
/-! ### spec_ImpulseOf: function 102 -/
def spec_ImpulseOf.j0 : Nat → Int → Int → Bool → Int → Int → Int → Int → Bool → Option (List Int × Bool)
 | 0, _, _, _, _, _, _, _, _ => none
 | k + 1, x1, x2, x19, x480000, x480001, x480002, x480003, x480004 => if x19 = true then (some (([] : List Int), false)) else (if 0 ≤ x2 then (if (x2 : Int).toNat ≤ 35184372088832 then ((some (List.replicate (x2 : Int).toNat 0 : List Int)).bind fun y482 => (if x2 > 0 then (if 0 < (y482.length : Int) then ((spec_foRun.f k x480000 x480001 x480002 x480003 x480004 0 (y482.set (0 : Int).toNat x1)).bind fun bt486 => (some (bt486.1, true))) else (none)) else ((spec_foRun.f k x480000 x480001 x480002 x480003 x480004 0 y482).bind fun bt490 => (some (bt490.1, true))))) else (none)) else (none))
def spec_ImpulseOf.f (k : Nat) (a0_0 : Int) (a0_1 : Int) (a0_2 : Int) (a0_3 : Int) (a0_4 : Bool) (a1 : Int) (a2 : Int) : Option (List Int × Bool) := (spec_foAsked.f a0_0 a0_1 a0_2 a0_3 a0_4 0 a1).bind fun t480 => (if t480 = true then ((spec_l1In.f a2 0 64).bind fun t481 => (spec_ImpulseOf.j0 k a1 a2 (!t481) a0_0 a0_1 a0_2 a0_3 a0_4)) else (spec_ImpulseOf.j0 k a1 a2 true a0_0 a0_1 a0_2 a0_3 a0_4))
theorem spec_ImpulseOf.mono_l : ∀ k, (∀ y0 y1 y2 y3 y4 y5 y6 y7, LeO (spec_ImpulseOf.j0 k y0 y1 y2 y3 y4 y5 y6 y7) (spec_ImpulseOf.j0 (k + 1) y0 y1 y2 y3 y4 y5 y6 y7))
 | 0 => fun _ _ _ _ _ _ _ _ r h => by simp [spec_ImpulseOf.j0] at h
 | k + 1 => by
  have ih0 := spec_ImpulseOf.mono_l k
  have m0 := @spec_foRun.mono
  intros
  unfold spec_ImpulseOf.j0
  exact xM
theorem spec_ImpulseOf.mono : ∀ a0 a1 a2 a3 a4 a5 a6 k, LeO (spec_ImpulseOf.f k a0 a1 a2 a3 a4 a5 a6) (spec_ImpulseOf.f (k + 1) a0 a1 a2 a3 a4 a5 a6) := by
 intro a0 a1 a2 a3 a4 a5 a6 k
 have ih0 := spec_ImpulseOf.mono_l k
 have m0 := @spec_foRun.mono
 unfold spec_ImpulseOf.f
 exact xM
set_option maxHeartbeats 200000000 in
set_option maxRecDepth 100000 in
theorem spec_ImpulseOf.calls (k : Nat) (a0_0 : Int) (a0_1 : Int) (a0_2 : Int) (a0_3 : Int) (a0_4 : Bool) (a1 : Int) (a2 : Int) (r1 : List Int) (r2 : Bool) (w : World) (h : spec_ImpulseOf.f k a0_0 a0_1 a0_2 a0_3 a0_4 a1 a2 = some (r1, r2)) :
  Calls Try.prog 102 #[.agg #[.int .i64 a0_0, .int .i64 a0_1, .int .i64 a0_2, .int .i64 a0_3, .bool a0_4], .int .i64 a1, .int .i64 a2] w fun e w' => ∃ v0_ : Value, e = .returned (.tuple #[v0_, .bool r2]) ∧ Kd.R (Kd.int .i64) 3 w' w.heap.size (fun _ => True) v0_ r1 ∧ Below w.heap.size w w' := by
 have hu62 := Try.underlying62
 have HB := xA (Below.refl w.heap.size w)
 have H : ((spec_foAsked.f a0_0 a0_1 a0_2 a0_3 a0_4 0 a1).bind fun t480 => (if t480 = true then ((spec_l1In.f a2 0 64).bind fun t481 => (spec_ImpulseOf.j0 k a1 a2 (!t481) a0_0 a0_1 a0_2 a0_3 a0_4)) else (spec_ImpulseOf.j0 k a1 a2 true a0_0 a0_1 a0_2 a0_3 a0_4))) = some (r1, r2) := h
 clear h
 have HC4 := xA H
 clear H
 go_enter Try.func102, Try.ntmps102
 go_upto_region 1 with (first | (refine xg 3 rfl ?_; refine xV 3 #[.int .i64 a0_0, .int .i64 a0_1, .int .i64 a0_2, .int .i64 a0_3, .bool a0_4] 62 ?_; intro gb479 hg w5 hbox hb; have BK479 := xA (hbox); have GW479 := xgw hg (below_size (xB HB.out)); have GE479 := GW479; replace HB := xA (below_step (xB HB.out) hb); clear hb hbox hg))
 (try simp only [Act.put, List.setIfInBounds_toArray, List.set_cons_zero, List.set_cons_succ])
 go_cut [19] from 11 to 11 (fun v19 wc => ∃ (kq : Nat) (x19_3 : Bool), v19 = .bool x19_3 ∧ Aside0 (spec_ImpulseOf.j0 kq a1 a2 x19_3 a0_0 a0_1 a0_2 a0_3 a0_4 = some (r1, r2)) ∧ Aside0 (kq ≤ k) ∧ Aside0 (wc.heap[gb479]? = some (.cells #[.int .i64 a0_0, .int .i64 a0_1, .int .i64 a0_2, .int .i64 a0_3, .bool a0_4] 62 (0, 0))) ∧ Aside0 (Below w.heap.size w wc))
 case first => as_aux_lemma =>
  have H := HC4.out
  clear HC4
  obtain ⟨t480, A6, H⟩ := xO H
  (try dsimp only at H)
  by_cases c7 : t480 = true
  rotate_left
  ·replace c7 := Bool.eq_false_iff.mpr c7
   subst c7
   rw [if_neg (show ¬ (false = true) by decide)] at H
   have H' := xA H
   clear H
   obtain ⟨hcz11_0, hcz11_1, hcz11_2, hcz11_3, hcz11_4, hfz11_0, hfz11_1, hfz11_2, hfz11_3, hfz11_4⟩ := xZ5 BK479.out
   go_wp2_with (first | (refine xG (some 13) Try.func285 #[.agg #[.int .i64 a0_0, .int .i64 a0_1, .int .i64 a0_2, .int .i64 a0_3, .bool a0_4], .int .i64 0, .int .i64 a1] ?_; (with_reducible refine (spec_foAsked.calls a0_0 a0_1 a0_2 a0_3 a0_4 0 a1 false _ A6.out).mono ?_); rintro e w12 ⟨rfl, hb⟩; refine ⟨_, rfl, ?_⟩; replace BK479 := xkb BK479 hb; replace HB := xA (below_step (xB1 GE479.out HB.out) hb); (try clear hb)))
   go_meet
   case rel => exact ⟨_, (true), xs, H', ⟨by first | omega | exact Nat.le_refl _⟩, ⟨xK BK479.out⟩, ⟨xB1 GE479.out HB.out⟩⟩
  subst c7
  rw [if_pos rfl] at H
  obtain ⟨t481, A8, H⟩ := xO H
  (try dsimp only at H)
  have H' := xA H
  clear H
  replace hz479 := blk_cell BK479.out; replace hy479 := blk_frozen BK479.out
  go_wp2_with (first | (refine xG (some 13) Try.func285 #[.agg #[.int .i64 a0_0, .int .i64 a0_1, .int .i64 a0_2, .int .i64 a0_3, .bool a0_4], .int .i64 0, .int .i64 a1] ?_; (with_reducible refine (spec_foAsked.calls a0_0 a0_1 a0_2 a0_3 a0_4 0 a1 true _ A6.out).mono ?_); rintro e w10 ⟨rfl, hb⟩; refine ⟨_, rfl, ?_⟩; replace BK479 := xkb BK479 hb; replace HB := xA (below_step (xB1 GE479.out HB.out) hb); (try clear hb)) | (go_at_call 230; (with_reducible refine (spec_l1In.calls a2 0 64 t481 _ A8.out).mono ?_); rintro e w' ⟨rfl, ⟨nd, rfl⟩⟩))
  go_meet
  case rel => exact ⟨_, (!t481), xs, H', ⟨by first | omega | exact Nat.le_refl _⟩, ⟨xK BK479.out⟩, ⟨xB1 GE479.out HB.out⟩⟩
 case rest => as_aux_lemma =>
  clear HC4
  obtain ⟨kq, x19_3, rfl, HA, HJ3, BK479, HB⟩ := hcut
  cases kq with
  | zero => exact absurd HA.out (by simp [spec_ImpulseOf.j0])
  | succ kj3 =>
   have H := HA.out
   clear HA
   simp only [spec_ImpulseOf.j0] at H
   by_cases c13 : x19_3 = true
   ·subst c13
    rw [if_pos rfl] at H
    simp only [Option.some.injEq, Prod.mk.injEq] at H
    obtain ⟨rfl, rfl⟩ := H
    go_wp2
    go_ret2
    exact ⟨_, xr, by first | exact Kd.R_nil _ _ _ _ _ | exact Kd.N_nil _ _ _ _ _ | exact Kd.V_nil _ _ _ _ _ | exact Kd.Q_nil _ _ _ _ _ | exact Kd.S_nil _ _ _ _ _, xB1 GE479.out HB.out⟩
   replace c13 := Bool.eq_false_iff.mpr c13
   subst c13
   rw [if_neg (show ¬ (false = true) by decide)] at H
   by_cases c14 : 0 ≤ a2
   rotate_left
   ·rw [if_neg c14] at H
    exact absurd H (by simp)

   rw [if_pos c14] at H
   have c14b0 := eq_true c14
   have c14b1 : decide (0 ≤ a2) = true := decide_eq_true c14
   clear c14
   by_cases c15 : (a2 : Int).toNat ≤ 35184372088832
   rotate_left
   ·rw [if_neg c15] at H
    exact absurd H (by simp)
   rw [if_pos c15] at H
   have c15b0 := eq_true c15
   have c15b1 : decide ((a2 : Int).toNat ≤ 35184372088832) = true := decide_eq_true c15
   clear c15
   obtain ⟨y482, hy482⟩ : ∃ y_ : List Int, y_ = (List.replicate (a2 : Int).toNat 0) := ⟨_, rfl⟩
   replace H : (if a2 > 0 then (if 0 < (y482.length : Int) then ((spec_foRun.f kj3 a0_0 a0_1 a0_2 a0_3 a0_4 0 (y482.set (0 : Int).toNat a1)).bind fun bt486 => (some (bt486.1, true))) else (none)) else ((spec_foRun.f kj3 a0_0 a0_1 a0_2 a0_3 a0_4 0 y482).bind fun bt490 => (some (bt490.1, true)))) = some (r1, r2) := by first | (rw [hy482]; with_reducible exact H) | (have H2_ := (Option.bind_some _ _).symm.trans H; rw [hy482]; with_reducible exact H2_) | (have H2_ := (Option.bind_some _ _).symm.trans H; with_reducible exact H2_) | with_reducible exact H | (rw [hy482]; exact H) | exact H
   have Ny482 := xA hy482
   clear hy482
   by_cases c16 : a2 > 0
   rotate_left
   ·rw [if_neg c16] at H
    have c16b0 : decide (0 < a2) = false := decide_eq_false c16
    clear c16
    replace H := Option.bind_eq_some_iff.mp H
    obtain ⟨⟨t490, t493⟩, A260, H⟩ := H
    (try dsimp only at H)
    have A26 := xA A260
    clear A260
    simp only [Option.some.injEq, Prod.mk.injEq] at H
    obtain ⟨rfl, rfl⟩ := H
    go_wp2_with (first | ((with_reducible refine gate_dst (N := 21) rfl ?_); refine Kd.R_make (Kd.int .i64) _ 3 rfl (N := 21) rfl 24 _ _ rfl a2 rfl rfl Try.underlying24 (.int .i64 0) 8 info3 rfl (by decide) (by omega) 0 (ok := fun _ => True) (okp := fun _ => True) rfl (fun _ hk => hk) trivial (of_decide_eq_true (by first | (with_reducible assumption) | assumption)) (Nat.le_trans (Nat.mul_le_mul_right _ (of_decide_eq_true (by first | (with_reducible assumption) | assumption) : a2.toNat ≤ 35184372088832)) (by omega)) (Below.refl _ _) (Nat.le_refl _) ?_; intro v483 w27 ho28 hb hg_ hnew_; clear hg_ hnew_; (first | rw [← Ny482.out] at ho28 | (simp only [Int.reduceToNat] at ho28; rw [← Ny482.out] at ho28)); have HO484 := xA (Kd.R_lower ho28 (below_size (xB1 GE479.out HB.out))); replace BK479 := xkb BK479 hb; replace HB := xA (below_step (xB1 GE479.out HB.out) hb); clear hb ho28; replace hz479 := blk_cell BK479.out; replace hy479 := blk_frozen BK479.out; obtain ⟨Ao30, co30, eo30⟩ := Kd.R_slice HO484.out; subst eo30) | (refine xG (some 30) Try.func286 #[.agg #[.int .i64 a0_0, .int .i64 a0_1, .int .i64 a0_2, .int .i64 a0_3, .bool a0_4], .int .i64 0, .slice Ao30 y482.length co30] ?_; (with_reducible refine (spec_foRun.calls kj3 a0_0 a0_1 a0_2 a0_3 a0_4 0 _ _ y482 t490 t493 _ ?side1 ?side2 A26.out).mono ?_); (case side1 => exact xC ((Kd.R_reads' HO484.out).2.2)); (case side2 => exact (Kd.R_reads' HO484.out).2.1); rintro e w31 ⟨v491, rfl, ho0, hb⟩; refine ⟨_, rfl, ?_⟩; have HO492 := xA (Kd.R_lower (Kd.R_new' ho0 (Kd.R_lt (xR HO484.out))) (below_size (xB1 GE479.out HB.out))); replace HO484 := xA (Kd.R_elder' (xR HO484.out) (Kd.R_base ho0) hb); replace BK479 := xkb BK479 hb; replace HB := xA (below_step (xB1 GE479.out HB.out) hb); (try clear hb); (try clear ho0)))
    go_ret2
    exact ⟨_, xr, by (with_reducible repeat (first | apply Kd.R_alloc | apply Kd.R_drewN | apply Kd.R_drew)); exact Kd.R_mono HO492.out (fun _ hk => trivial), xB1 GE479.out HB.out⟩
   rw [if_pos c16] at H
   have c16b0 : decide (0 < a2) = true := decide_eq_true c16
   clear c16
   by_cases c17 : 0 < (y482.length : Int)
   rotate_left
   ·rw [if_neg c17] at H
    exact absurd H (by simp)
   rw [if_pos c17] at H
   have c17b0 : decide (0 < (y482.length : Int)) = true := decide_eq_true c17
   have c17b1 : decide (0 < y482.length) = true := decide_eq_true (by omega)
   clear c17
   obtain ⟨y485, hy485⟩ : ∃ y_ : List Int, y_ = (y482.set (0 : Int).toNat a1) := ⟨_, rfl⟩
   replace H : ((spec_foRun.f kj3 a0_0 a0_1 a0_2 a0_3 a0_4 0 y485).bind fun bt486 => (some (bt486.1, true))) = some (r1, r2) := by first | (rw [hy485]; with_reducible exact H) | (have H2_ := (Option.bind_some _ _).symm.trans H; rw [hy485]; with_reducible exact H2_) | (have H2_ := (Option.bind_some _ _).symm.trans H; with_reducible exact H2_) | with_reducible exact H | (rw [hy485]; exact H) | exact H
   have Ny485 := xA hy485
   clear hy485
   replace H := Option.bind_eq_some_iff.mp H
   obtain ⟨⟨t486, t489⟩, A190, H⟩ := H
   (try dsimp only at H)
   have A19 := xA A190
   clear A190
   simp only [Option.some.injEq, Prod.mk.injEq] at H
   obtain ⟨rfl, rfl⟩ := H
   go_wp2_with (first | ((with_reducible refine gate_dst (N := 21) rfl ?_); refine Kd.R_make (Kd.int .i64) _ 3 rfl (N := 21) rfl 24 _ _ rfl a2 rfl rfl Try.underlying24 (.int .i64 0) 8 info3 rfl (by decide) (by omega) 0 (ok := fun _ => True) (okp := fun _ => True) rfl (fun _ hk => hk) trivial (of_decide_eq_true (by first | (with_reducible assumption) | assumption)) (Nat.le_trans (Nat.mul_le_mul_right _ (of_decide_eq_true (by first | (with_reducible assumption) | assumption) : a2.toNat ≤ 35184372088832)) (by omega)) (Below.refl _ _) (Nat.le_refl _) ?_; intro v483 w20 ho21 hb hg_ hnew_; clear hg_ hnew_; (first | rw [← Ny482.out] at ho21 | (simp only [Int.reduceToNat] at ho21; rw [← Ny482.out] at ho21)); have HO484 := xA (Kd.R_lower ho21 (below_size (xB1 GE479.out HB.out))); replace BK479 := xkb BK479 hb; replace HB := xA (below_step (xB1 GE479.out HB.out) hb); clear hb ho21; have p18 : 0 ≤ (0 : Int) := (by omega); have q18 : (0 : Int) < ((y482.length : Int) : Int) := of_decide_eq_true (by first | (with_reducible assumption) | assumption); have qi18 : (0 < y482.length) = True := eq_true (by omega); obtain ⟨go18, co18, eo18, gb18, gl18, cl18, HG18⟩ := Kd.R_form HO484.out (by omega); (first | cases eo18 | (injection eo18 with ea_ en_ ec_; (first | subst ea_ | (injection ea_ with ea_; subst ea_)); subst ec_; clear en_)); have GB18 := xA gb18; have GG18 := xA HG18; clear gb18 gl18 HG18; obtain ⟨hx18_0, hf18_0⟩ := Kd.R_celln 0 HO484.out (0 : Int) p18 q18; (try rw [show ((0 : Int)).toNat = 0 from rfl] at hx18_0); (try simp only [Nat.reduceMul, Nat.zero_mul, Nat.zero_add, Nat.reduceAdd] at hx18_0); (try rw [show ((0 : Int)).toNat = 0 from rfl] at hf18_0); (try simp only [Nat.reduceMul, Nat.zero_mul, Nat.zero_add, Nat.reduceAdd] at hf18_0); replace p18 := eq_true p18; replace q18 := eq_true q18; obtain ⟨hy22_, hz22_⟩ := Kd.R_celln 0 HO484.out (0 : Int) (by omega) (of_decide_eq_true (by first | (with_reducible assumption) | assumption)); (try simp only [Int.reduceToNat, Int.toNat_zero, Int.toNat_ofNat, Nat.reduceMul, Nat.zero_mul, Nat.zero_add] at hy22_ hz22_); (try rw [show ((0 : Int)).toNat = 0 from rfl] at hy22_); (try rw [show ((0 : Int)).toNat = 0 from rfl] at hz22_); have HP22 := Kd.R_putg HO484.out (0 : Int) a1) | ((with_reducible refine gate_store (t := 3) (p := 26) rfl ?_); refine store_event (t := 3) (p := 26) (v := ?vo_w23) (w1 := (w20.setCell ⟨go18, (0 : Int).toNat, none⟩ (.int .i64 a1))) ?hg ?ho ?hn ?hr ?_; (case ho => rfl); (case hg => rfl); (case hn => rfl); (case hr => first | (go_simp; done) | (go_simp; rfl)); intro w23 hw; have hg : w20.grownBy w23 (some go18) := (by rw [hw]; exact HP22.2); have hp_ : Kd.R (Kd.int .i64) 3 w23 w.heap.size (fun _ => True) (.slice (some ⟨go18, 0, none⟩) y482.length co18) y485 := (by rw [hw, Ny485.out]; exact HP22.1); clear HP22; replace BK479 := xA (blk_grown (xK BK479.out) hg (Kd.R_ne HO484.out BK479.out (by decide))); replace HO484 := xA (hp_); replace HB := xA ((by rw [hw]; exact below_set (HB.out) GB18.out : Below w.heap.size w w23)); clear hg hw hp_; replace hz479 := blk_cell BK479.out; replace hy479 := blk_frozen BK479.out) | ((with_reducible refine gate_callee (f := 286) rfl ?_); refine goesL_ (some 30) rfl rfl Try.func286 (by kernel_rfl) rfl #[.agg #[.int .i64 a0_0, .int .i64 a0_1, .int .i64 a0_2, .int .i64 a0_3, .bool a0_4], .int .i64 0, .slice (some ⟨go18, 0, none⟩) y485.length co18] rfl (by (try simp only [List.map_toArray, List.map_cons, List.map_nil]); first | done | (rw [show y485.length = y482.length from (Kd.R_reads' HO484.out).1.symm] <;> rfl) | rfl | (simp only [List.length_drop, List.length_take]; rfl)) ?_; (with_reducible refine (spec_foRun.calls kj3 a0_0 a0_1 a0_2 a0_3 a0_4 0 _ _ y485 t486 t489 _ ?side1 ?side2 A19.out).mono ?_); (case side1 => exact xC ((Kd.R_reads' HO484.out).2.2)); (case side2 => rw [show y485.length = y482.length from (Kd.R_reads' HO484.out).1.symm]; exact (Kd.R_reads' HO484.out).2.1); rintro e w25 ⟨v487, rfl, ho0, hb⟩; refine ⟨_, rfl, ?_⟩; have HO488 := xA (Kd.R_lower (Kd.R_new' ho0 (Kd.R_lt (xR HO484.out))) (below_size (xB1 GE479.out HB.out))); replace HO484 := xA (Kd.R_elder' (xR HO484.out) (Kd.R_base ho0) hb); replace BK479 := xkb BK479 hb; replace HB := xA (below_step (xB1 GE479.out HB.out) hb); (try clear hb); (try clear ho0)))
   go_ret2
   exact ⟨_, xr, by (with_reducible repeat (first | apply Kd.R_alloc | apply Kd.R_drewN | apply Kd.R_drew)); exact Kd.R_mono HO488.out (fun _ hk => trivial), xB1 GE479.out HB.out⟩
/-! ### spec_DrawFirstStep: function 103 -/
def spec_DrawFirstStep.f (k : Nat) (l0 : List Int) : Option (Int × Int × Int × Int × Bool × Int × Int) := (spec_l1Cur_first.f l0 0 0 9).bind fun bt496 => ((spec_l1Cur_inWord.f k l0 bt496.2.2.2.2.2.1 bt496.2.2.2.2.2.2 bt496.2.2.2.1 bt496.2.2.2.2.1).bind fun bt504 => ((spec_l1Cur_sample.f l0 bt504.2.1 bt504.2.2 20).bind fun bt507 => (some (bt496.1, bt496.2.1, bt496.2.2.1, bt496.2.2.2.1, bt496.2.2.2.2.1, bt504.1, bt507.1))))
theorem spec_DrawFirstStep.mono : ∀ a0 k, LeO (spec_DrawFirstStep.f k a0) (spec_DrawFirstStep.f (k + 1) a0) := by
 intro a0 k
 have m0 := @spec_l1Cur_inWord.mono
 unfold spec_DrawFirstStep.f
 exact xM
def spec_DrawFirstStep.T3 : Bool × List (List Nat × List Nat) := (true, [([], []), ([], []), ([], []), ([2], [2]), ([1, 3], [1, 3]), ([], []), ([5, 4], [5]), ([0, 6, 0], [0]), ([4, 7, 0, 1, 2, 3, 4, 7], [4]), ([6, 8, 0, 1, 2, 3, 4, 5, 6, 7, 8], [6])])
def spec_DrawFirstStep.B3 : List Nat := [0, 0, 0, 4, 14, 0, 62, 127, 255, 511]
theorem spec_DrawFirstStep.tab3 : rtab .any (opsOf Try.f103 3) = spec_DrawFirstStep.T3 := by kernel_rfl
theorem spec_DrawFirstStep.bits3 : waitsOk spec_DrawFirstStep.T3.2 spec_DrawFirstStep.B3 = true := by kernel_rfl
set_option maxHeartbeats 200000000 in
set_option maxRecDepth 100000 in
theorem spec_DrawFirstStep.calls (k : Nat) (A0 : Option Addr) (c0 : Nat) (l0 : List Int) (r1 : Int) (r2 : Int) (r3 : Int) (r4 : Int) (r5 : Bool) (r6 : Int) (r7 : Int) (w : World) (hr0 : Kd.C (Kd.int .u8) w A0 l0.length l0) (hc0 : l0.length ≤ c0) (h : spec_DrawFirstStep.f k l0 = some (r1, r2, r3, r4, r5, r6, r7)) :
  Calls Try.prog 103 #[.slice A0 l0.length c0] w fun e w' => e = .returned (.tuple #[.agg #[.int .i64 r1, .int .i64 r2, .int .i64 r3, .int .i64 r4, .bool r5], .int .i64 r6, .int .i64 r7]) ∧ Below w.heap.size w w' := by
 have hu62 := Try.underlying62
 have hu129 := Try.underlying129
 have hu46 := Try.underlying46
 have HR0 := xA hr0
 have HC0 := xA hc0
 clear hr0 hc0
 have HB := xA (Below.refl w.heap.size w)
 have H : ((spec_l1Cur_first.f l0 0 0 9).bind fun bt496 => ((spec_l1Cur_inWord.f k l0 bt496.2.2.2.2.2.1 bt496.2.2.2.2.2.2 bt496.2.2.2.1 bt496.2.2.2.2.1).bind fun bt504 => ((spec_l1Cur_sample.f l0 bt504.2.1 bt504.2.2 20).bind fun bt507 => (some (bt496.1, bt496.2.1, bt496.2.2.1, bt496.2.2.2.1, bt496.2.2.2.2.1, bt504.1, bt507.1))))) = some (r1, r2, r3, r4, r5, r6, r7) := h
 clear h
 replace H := Option.bind_eq_some_iff.mp H
 obtain ⟨⟨t496, t497, t498, t499, t500, t501, t502⟩, A20, H⟩ := H
 (try dsimp only at H)
 have A2 := xA A20
 clear A20
 replace H := Option.bind_eq_some_iff.mp H
 obtain ⟨⟨t504, t505, t506⟩, A30, H⟩ := H
 (try dsimp only at H)
 have A3 := xA A30
 clear A30
 replace H := Option.bind_eq_some_iff.mp H
 obtain ⟨⟨t507, t508, t509⟩, A40, H⟩ := H
 (try dsimp only at H)
 have A4 := xA A40
 clear A40
 simp only [Option.some.injEq, Prod.mk.injEq] at H
 obtain ⟨rfl, rfl, rfl, rfl, rfl, rfl, rfl⟩ := H
 go_enter Try.func103, Try.ntmps103
 try go_wp2_with (first | (refine xg 2 rfl ?_; refine xV 2 #[.int .i64 0, .int .i64 0, .int .i64 0, .int .i64 0, .bool false] 62 ?_; intro gb494 hg w5 hbox hb; have BK494 := xA (hbox); have GW494 := xgw hg (below_size (xB HB.out)); have GE494 := GW494; replace HB := xA (below_step (xB HB.out) hb); clear hb hbox hg) | (refine xg 9 rfl ?_; refine xV 9 #[.slice A0 l0.length c0, .int .i64 0, .int .u64 0] 129 ?_; intro gb495 hg w6 hbox hb; have HI495 := xA ((show IsS129 w _ gb495 l0 0 0 from ⟨_, _, hbox, (by rw [hg]; exact (below_size (xB1 GE494.out HB.out)) : w.heap.size ≤ gb495), HR0.out⟩)); replace HB := xA (below_step (xB1 GE494.out HB.out) hb); have NB494_495 := xnl hg BK494; have NB495_494 := xng hg BK494; replace BK494 := xkb BK494 hb; clear hb hbox hg) | (refine xG (some 11) Try.func281 #[.pointer (some ⟨gb495, 0, none⟩), .int .i64 9] ?_; (with_reducible refine (spec_l1Cur_first.calls gb495 l0 0 0 9 t496 t497 t498 t499 t500 t501 t502 w _ ?side1 ?side2 A2.out).mono ?_); (case side1 => exact xJ129_12_1 NB495_494.out HI495.out); (case side2 => exact xB2 (IsS129.ge HI495.out) GE494.out HB.out); rintro e w7 ⟨rfl, hi, hb, hk⟩; refine ⟨_, rfl, ?_⟩; replace BK494 := xkk hk BK494 NB494_495; replace HB := xA (hb); replace HI495 := xA (hi); (try clear hb hk hi)) | (refine xg 6 rfl ?_; refine xV 6 #[.int .i64 0, .int .i64 0, .int .i64 0, .int .i64 0, .bool false] 62 ?_; intro gb503 hg w8 hbox hb; have BK503 := xA (hbox); have GW503 := xgw hg (below_size (xB2 (IsS129.ge HI495.out) GE494.out HB.out)); have GE503 := GW503; replace HB := xA (below_step (xB2 (IsS129.ge HI495.out) GE494.out HB.out) hb); have NB494_503 := xnl hg BK494; have NB503_494 := xng hg BK494; replace BK494 := xkb BK494 hb; have NB495_503 := xA ((by rw [hg]; exact Nat.ne_of_lt (IsS129.lt (show IsS129 w _ gb495 l0 t501 t502 from xJ129_12_1 NB495_494.out HI495.out)) : gb495 ≠ gb503)); have NB503_495 := xA ((by rw [hg]; exact Nat.ne_of_gt (IsS129.lt (show IsS129 w _ gb495 l0 t501 t502 from xJ129_12_1 NB495_494.out HI495.out)) : gb503 ≠ gb495)); replace HI495 := xA (IsS129.below (xJ129_12_1 NB495_494.out HI495.out) hb); clear hb hbox hg; have hnb9 := NB503_494.out; have hnc9 := NB494_503.out; have hnb10 := NB503_495.out; have hnc10 := NB495_503.out; obtain ⟨hcz11_0, hcz11_1, hcz11_2, hcz11_3, hcz11_4, hfz11_0, hfz11_1, hfz11_2, hfz11_3, hfz11_4⟩ := xZ5 BK503.out))
 have n0_ : Aside0 ((((((w8.setCell ⟨gb503, 0, none⟩ (.int .i64 t496)).setCell ⟨gb503, 1, none⟩ (.int .i64 t497)).setCell ⟨gb503, 2, none⟩ (.int .i64 t498)).setCell ⟨gb503, 3, none⟩ (.int .i64 t499)).setCell ⟨gb503, 4, none⟩ (.bool t500)).heap[gb494]? = some (.cells #[.int .i64 0, .int .i64 0, .int .i64 0, .int .i64 0, .bool false] 62 (0, 0))) := ⟨by (with_reducible repeat (first | refine blk_drewN ?_ _ | refine blk_drew ?_ | refine blk_alloc ?_ _)); refine blk_far ?_ NB494_503.out _; (with_reducible repeat (first | refine blk_drewN ?_ _ | refine blk_drew ?_ | refine blk_alloc ?_ _)); refine blk_far ?_ NB494_503.out _; (with_reducible repeat (first | refine blk_drewN ?_ _ | refine blk_drew ?_ | refine blk_alloc ?_ _)); refine blk_far ?_ NB494_503.out _; (with_reducible repeat (first | refine blk_drewN ?_ _ | refine blk_drew ?_ | refine blk_alloc ?_ _)); refine blk_far ?_ NB494_503.out _; (with_reducible repeat (first | refine blk_drewN ?_ _ | refine blk_drew ?_ | refine blk_alloc ?_ _)); refine blk_far ?_ NB494_503.out _; (with_reducible repeat (first | refine blk_drewN ?_ _ | refine blk_drew ?_ | refine blk_alloc ?_ _)); exact BK494.out⟩
 have n1_ : Aside0 ((((((w8.setCell ⟨gb503, 0, none⟩ (.int .i64 t496)).setCell ⟨gb503, 1, none⟩ (.int .i64 t497)).setCell ⟨gb503, 2, none⟩ (.int .i64 t498)).setCell ⟨gb503, 3, none⟩ (.int .i64 t499)).setCell ⟨gb503, 4, none⟩ (.bool t500)).heap[gb503]? = some (.cells #[.int .i64 t496, .int .i64 t497, .int .i64 t498, .int .i64 t499, .bool t500] 62 (0, 0))) := ⟨by (with_reducible repeat (first | refine blk_drewN ?_ _ | refine blk_drew ?_ | refine blk_alloc ?_ _)); refine blk_put (cs := #[.int .i64 t496, .int .i64 t497, .int .i64 t498, .int .i64 t499, .bool false]) ?_ 4 _ rfl; (with_reducible repeat (first | refine blk_drewN ?_ _ | refine blk_drew ?_ | refine blk_alloc ?_ _)); refine blk_put (cs := #[.int .i64 t496, .int .i64 t497, .int .i64 t498, .int .i64 0, .bool false]) ?_ 3 _ rfl; (with_reducible repeat (first | refine blk_drewN ?_ _ | refine blk_drew ?_ | refine blk_alloc ?_ _)); refine blk_put (cs := #[.int .i64 t496, .int .i64 t497, .int .i64 0, .int .i64 0, .bool false]) ?_ 2 _ rfl; (with_reducible repeat (first | refine blk_drewN ?_ _ | refine blk_drew ?_ | refine blk_alloc ?_ _)); refine blk_put (cs := #[.int .i64 t496, .int .i64 0, .int .i64 0, .int .i64 0, .bool false]) ?_ 1 _ rfl; (with_reducible repeat (first | refine blk_drewN ?_ _ | refine blk_drew ?_ | refine blk_alloc ?_ _)); refine blk_put (cs := #[.int .i64 0, .int .i64 0, .int .i64 0, .int .i64 0, .bool false]) ?_ 0 _ rfl; (with_reducible repeat (first | refine blk_drewN ?_ _ | refine blk_drew ?_ | refine blk_alloc ?_ _)); exact BK503.out⟩
 have n2_ : Aside0 (IsS129 w (((((w8.setCell ⟨gb503, 0, none⟩ (.int .i64 t496)).setCell ⟨gb503, 1, none⟩ (.int .i64 t497)).setCell ⟨gb503, 2, none⟩ (.int .i64 t498)).setCell ⟨gb503, 3, none⟩ (.int .i64 t499)).setCell ⟨gb503, 4, none⟩ (.bool t500)) gb495 l0 t501 t502) := ⟨xJ129_12_2 NB495_494.out NB495_503.out HI495.out⟩
 have n3_ : Aside0 (Below w.heap.size w (((((w8.setCell ⟨gb503, 0, none⟩ (.int .i64 t496)).setCell ⟨gb503, 1, none⟩ (.int .i64 t497)).setCell ⟨gb503, 2, none⟩ (.int .i64 t498)).setCell ⟨gb503, 3, none⟩ (.int .i64 t499)).setCell ⟨gb503, 4, none⟩ (.bool t500))) := ⟨xB3 (IsS129.ge HI495.out) GE494.out GE503.out HB.out⟩
 (try clear BK494)
 (try clear BK503)
 (try clear HI495)
 (try clear HB)
 generalize (((((w8.setCell ⟨gb503, 0, none⟩ (.int .i64 t496)).setCell ⟨gb503, 1, none⟩ (.int .i64 t497)).setCell ⟨gb503, 2, none⟩ (.int .i64 t498)).setCell ⟨gb503, 3, none⟩ (.int .i64 t499)).setCell ⟨gb503, 4, none⟩ (.bool t500)) = w12 at n0_ n1_ n2_ n3_ ⊢
 have BK494 := n0_
 have BK503 := n1_
 have HI495 := n2_
 have HB := n3_
 clear n0_ n1_ n2_ n3_
 replace BK494 := xA (blk_drew BK494.out)
 replace BK503 := xA (blk_drew BK503.out)
 replace HI495 := xA (IsS129.drew HI495.out)
 replace HB := xA (below_drew1 HB.out)
 refine start_ (n := 10) (S := fun w' => w'.cell? ⟨gb503, 0, none⟩ = some (.int .i64 t496) ∧ w'.cell? ⟨gb503, 1, none⟩ = some (.int .i64 t497) ∧ w'.cell? ⟨gb503, 2, none⟩ = some (.int .i64 t498) ∧ w'.cell? ⟨gb503, 3, none⟩ = some (.int .i64 t499) ∧ w'.cell? ⟨gb503, 4, none⟩ = some (.bool t500)) (ds := []) x12a0 (by kernel_rfl) rfl rfl ⟨(blk_cell BK503.out 0).trans rfl, (blk_cell BK503.out 1).trans rfl, (blk_cell BK503.out 2).trans rfl, (blk_cell BK503.out 3).trans rfl, (blk_cell BK503.out 4).trans rfl⟩ (fun hHeld => ?_); refine with_tabW spec_DrawFirstStep.tab3 spec_DrawFirstStep.bits3 (fun HT_ HW_ => ?_)
 generalize w12.drew = w13 at BK494 BK503 HI495 HB hHeld ⊢
 refine xP 1 13 x12a1 ?_
 refine xP 2 14 x12a2 ?_
 refine xP 5 17 x12a3 ?_
 refine xT5 hHeld 0 12 x12a4 ?_
 refine xT5 hHeld 3 15 x12a5 ?_
 refine xU 4 16 x12a6 (fun K hK => ?_)
 refine xY Try.func282 #[.pointer (some ⟨gb495, 0, none⟩), .agg #[.int .i64 t499, .bool t500]] ?_
 with_reducible refine (spec_l1Cur_inWord.calls k gb495 l0 t501 t502 t499 t500 t504 t505 t506 w _ ?side1 ?side2 A3.out).mono ?_
 (case side1 => exact xJ129_12_2 NB495_494.out NB495_503.out HI495.out)
 (case side2 => exact xB3 (IsS129.ge HI495.out) GE494.out GE503.out HB.out)
 rintro e w14 ⟨rfl, hi, hb, hk⟩
 refine ⟨_, rfl, ?_⟩
 replace BK494 := xkk hk BK494 NB494_495
 replace BK503 := xkk hk BK503 NB503_495
 replace HB := xA (hb)
 replace HI495 := xA (hi)
 (try clear hb); (try clear hb2); (try clear hk); (try clear hi)
 refine hK.out _ _ ⟨(blk_cell BK503.out 0).trans rfl, (blk_cell BK503.out 1).trans rfl, (blk_cell BK503.out 2).trans rfl, (blk_cell BK503.out 3).trans rfl, (blk_cell BK503.out 4).trans rfl⟩ (fun hHeld => ?_)
 clear hK K
 refine xN ?_
 refine xU 6 18 x12a7 (fun K hK => ?_)
 refine xY Try.func301 #[.pointer (some ⟨gb495, 0, none⟩), .int .i64 20] ?_
 with_reducible refine (spec_l1Cur_sample.calls gb495 l0 t505 t506 20 t507 t508 t509 w _ ?side1 ?side2 A4.out).mono ?_
 (case side1 => exact xJ129_12_2 NB495_494.out NB495_503.out HI495.out)
 (case side2 => exact xB3 (IsS129.ge HI495.out) GE494.out GE503.out HB.out)
 rintro e w15 ⟨rfl, hi, hb, hk⟩
 refine ⟨_, rfl, ?_⟩
 replace BK494 := xkk hk BK494 NB494_495
 replace BK503 := xkk hk BK503 NB503_495
 replace HB := xA (hb)
 replace HI495 := xA (hi)
 (try clear hb); (try clear hb2); (try clear hk); (try clear hi)
 refine hK.out _ _ ⟨(blk_cell BK503.out 0).trans rfl, (blk_cell BK503.out 1).trans rfl, (blk_cell BK503.out 2).trans rfl, (blk_cell BK503.out 3).trans rfl, (blk_cell BK503.out 4).trans rfl⟩ (fun hHeld => ?_)
 clear hK K
 refine xN ?_
 refine one_ (i := 7) (N := none) x12a8 rfl rfl (one_of HT_.out (by kernel_rfl)) (by decide) (fun K hK => ?_)
 have hs16 : w15.cell? ⟨gb494, 0, none⟩ = some (.int .i64 0) := (blk_cell BK494.out 0).trans rfl
 have hfs16 := blk_frozen BK494.out 0
 have hns16_1 := NB503_494.out
 have hms16_1 := NB494_503.out
 have hs17 : w15.cell? ⟨gb494, 1, none⟩ = some (.int .i64 0) := (blk_cell BK494.out 1).trans rfl
 have hfs17 := blk_frozen BK494.out 1
 have hns17_1 := NB503_494.out
 have hms17_1 := NB494_503.out
 have hs18 : w15.cell? ⟨gb494, 2, none⟩ = some (.int .i64 0) := (blk_cell BK494.out 2).trans rfl
 have hfs18 := blk_frozen BK494.out 2
 have hns18_1 := NB503_494.out
 have hms18_1 := NB494_503.out
 have hs19 : w15.cell? ⟨gb494, 3, none⟩ = some (.int .i64 0) := (blk_cell BK494.out 3).trans rfl
 have hfs19 := blk_frozen BK494.out 3
 have hns19_1 := NB503_494.out
 have hms19_1 := NB494_503.out
 have hs20 : w15.cell? ⟨gb494, 4, none⟩ = some (.bool false) := (blk_cell BK494.out 4).trans rfl
 have hfs20 := blk_frozen BK494.out 4
 have hns20_1 := NB503_494.out
 have hms20_1 := NB494_503.out
 refine skip_ (w1 := ?_) (by rfl) rfl ?_ ?_
 rotate_left
 ·go_simp
  rfl
 refine hK.out _ _ ⟨(xCf1 NB503_494.out hHeld.1), (xCf1 NB503_494.out hHeld.2.1), (xCf1 NB503_494.out hHeld.2.2.1), (xCf1 NB503_494.out hHeld.2.2.2.1), (xCf1 NB503_494.out hHeld.2.2.2.2)⟩ (fun hHeld => ?_)
 clear hK K
 refine xP 8 3 x12a9 ?_
 refine xP 9 4 x12a10 ?_
 refine xDn ?_
 try go_wp2
 refine bodyPost_ret (results_ctt rfl _ _ gb494 62 #[.int .i64 t496, .int .i64 t497, .int .i64 t498, .int .i64 t499, .bool t500] (0, 0) _ rfl (xPt0 BK494.out) Try.underlying62 rfl (by kernel_rfl)) rfl ?_
 exact ⟨xr, xB3 (IsS129.ge HI495.out) GE494.out GE503.out HB.out⟩

/-! ### spec_foStep: function 302 -/
def spec_foStep.f (k : Nat) (a0_0 : Int) (a0_1 : Int) (a0_2 : Int) (a0_3 : Int) (a0_4 : Bool) (a1 : Int) (a2 : Int) : Option (Int) := (spec_foRaw.f k a0_0 a0_1 a0_2 a0_3 a0_4 a1 a2).bind fun t511 => ((spec_wdFit.f a0_3 a0_4 t511).bind fun t512 => (some t512))
theorem spec_foStep.mono : ∀ a0 a1 a2 a3 a4 a5 a6 k, LeO (spec_foStep.f k a0 a1 a2 a3 a4 a5 a6) (spec_foStep.f (k + 1) a0 a1 a2 a3 a4 a5 a6) := by
 intro a0 a1 a2 a3 a4 a5 a6 k
 have m0 := @spec_foRaw.mono
 unfold spec_foStep.f
 exact xM
def spec_foStep.T1 : Bool × List (List Nat × List Nat) := (true, [([], []), ([0], [0]), ([], []), ([], []), ([], []), ([2, 3, 4], [2, 3, 4]), ([1, 5, 5], [1, 5]), ([6, 6, 0, 1, 2, 3, 4, 5, 6], [6])])
def spec_foStep.B1 : List Nat := [0, 1, 0, 0, 0, 28, 63, 127]
theorem spec_foStep.tab1 : rtab .any (opsOf Try.f302 1) = spec_foStep.T1 := by kernel_rfl
theorem spec_foStep.bits1 : waitsOk spec_foStep.T1.2 spec_foStep.B1 = true := by kernel_rfl
set_option maxHeartbeats 200000000 in
set_option maxRecDepth 100000 in
theorem spec_foStep.calls (k : Nat) (a0_0 : Int) (a0_1 : Int) (a0_2 : Int) (a0_3 : Int) (a0_4 : Bool) (a1 : Int) (a2 : Int) (r : Int) (w : World) (h : spec_foStep.f k a0_0 a0_1 a0_2 a0_3 a0_4 a1 a2 = some r) :
  Calls Try.prog 302 #[.agg #[.int .i64 a0_0, .int .i64 a0_1, .int .i64 a0_2, .int .i64 a0_3, .bool a0_4], .int .i64 a1, .int .i64 a2] w fun e w' => e = .returned (.int .i64 r) ∧ Below w.heap.size w w' := by
 have hu62 := Try.underlying62
 have hu46 := Try.underlying46
 have HB := xA (Below.refl w.heap.size w)
 have H : ((spec_foRaw.f k a0_0 a0_1 a0_2 a0_3 a0_4 a1 a2).bind fun t511 => ((spec_wdFit.f a0_3 a0_4 t511).bind fun t512 => (some t512))) = some r := h
 clear h
 obtain ⟨t511, A4, H⟩ := xO H
 (try dsimp only at H)
 obtain ⟨t512, A5, H⟩ := xO H
 (try dsimp only at H)
 obtain rfl := Option.some.inj H
 go_enter Try.func302, Try.ntmps302
 try go_wp2_with (first | (refine xg 3 rfl ?_; refine xV 3 #[.int .i64 a0_0, .int .i64 a0_1, .int .i64 a0_2, .int .i64 a0_3, .bool a0_4] 62 ?_; intro gb510 hg w6 hbox hb; have BK510 := xA (hbox); have GW510 := xgw hg (below_size (xB HB.out)); have GE510 := GW510; replace HB := xA (below_step (xB HB.out) hb); clear hb hbox hg))
 replace BK510 := xA (blk_drew BK510.out)
 replace HB := xA (below_drew1 HB.out)
 refine start_ (n := 8) (S := fun w' => w'.cell? ⟨gb510, 0, none⟩ = some (.int .i64 a0_0) ∧ w'.cell? ⟨gb510, 1, none⟩ = some (.int .i64 a0_1) ∧ w'.cell? ⟨gb510, 2, none⟩ = some (.int .i64 a0_2) ∧ w'.cell? ⟨gb510, 3, none⟩ = some (.int .i64 a0_3) ∧ w'.cell? ⟨gb510, 4, none⟩ = some (.bool a0_4)) (ds := []) x12a11 (by kernel_rfl) rfl rfl ⟨(blk_cell BK510.out 0).trans rfl, (blk_cell BK510.out 1).trans rfl, (blk_cell BK510.out 2).trans rfl, (blk_cell BK510.out 3).trans rfl, (blk_cell BK510.out 4).trans rfl⟩ (fun hHeld => ?_); refine with_tabW spec_foStep.tab1 spec_foStep.bits1 (fun HT_ HW_ => ?_)
 generalize w6.drew = w7 at BK510 HB hHeld ⊢
 refine xP 0 7 x12a12 ?_
 refine xP 3 10 x12a13 ?_
 refine xP 4 11 x12a14 ?_
 refine xT5 hHeld 1 8 x12a15 ?_
 refine xT5 hHeld 2 9 x12a16 ?_
 refine xU 5 12 x12a17 (fun K hK => ?_)
 refine xY Try.func383 #[.agg #[.int .i64 a0_0, .int .i64 a0_1, .int .i64 a0_2, .int .i64 a0_3, .bool a0_4], .int .i64 a1, .int .i64 a2] ?_
 with_reducible refine (spec_foRaw.calls k a0_0 a0_1 a0_2 a0_3 a0_4 a1 a2 t511 _ A4.out).mono ?_
 rintro e w8 ⟨rfl, hb⟩
 refine ⟨_, rfl, ?_⟩
 replace BK510 := xkb BK510 hb
 replace HB := xA (below_step (xB1 GE510.out HB.out) hb)
 (try clear hb); (try clear hb2); (try clear hk); (try clear hi)
 refine hK.out _ _ ⟨(blk_cell BK510.out 0).trans rfl, (blk_cell BK510.out 1).trans rfl, (blk_cell BK510.out 2).trans rfl, (blk_cell BK510.out 3).trans rfl, (blk_cell BK510.out 4).trans rfl⟩ (fun hHeld => ?_)
 clear hK K
 refine xN ?_
 refine xU 6 13 x12a18 (fun K hK => ?_)
 refine xY Try.func256 #[.agg #[.int .i64 a0_3, .bool a0_4], .int .i64 t511] ?_
 with_reducible refine (spec_wdFit.calls a0_3 a0_4 t511 t512 _ A5.out).mono ?_
 rintro e w9 ⟨rfl, hb⟩
 refine ⟨_, rfl, ?_⟩
 replace BK510 := xkb BK510 hb
 replace HB := xA (below_step (xB1 GE510.out HB.out) hb)
 (try clear hb); (try clear hb2); (try clear hk); (try clear hi)
 refine hK.out _ _ ⟨(blk_cell BK510.out 0).trans rfl, (blk_cell BK510.out 1).trans rfl, (blk_cell BK510.out 2).trans rfl, (blk_cell BK510.out 3).trans rfl, (blk_cell BK510.out 4).trans rfl⟩ (fun hHeld => ?_)
 clear hK K
 refine xN ?_
 refine xP 7 6 x12a19 ?_
 refine xDn ?_
 try go_wp2
 go_ret
 exact ⟨xr, xB1 GE510.out HB.out⟩

end Go.Proofs.Ytjplcongellcmaa.PFnFirstRuns
