/- What each Go function that the statement FnPhasesWork reaches answers, proved call by call. No condition beyond those that the theorems print. (Written by wip/tools/xprint.py of this repo, over the kit's print.) -/
import Derived.Test.YtjplcongellcmaaPFnPhasesWorkx0
import Derived.Test.YtjplcongellcmaaPFnPhasesWorkx1
import Derived.Test.YtjplcongellcmaaPFnPhasesWorkx2
import Derived.Test.YtjplcongellcmaaPFnPhasesWorkx3
import Derived.Test.YtjplcongellcmaaPFnPhasesWorkx4
import Derived.Test.YtjplcongellcmaaPFnPhasesWorkx5
import Derived.Test.YtjplcongellcmaaPFnPhasesWorkx13
namespace Go.Proofs.Ytjplcongellcmaa.PFnPhasesWork
open Go.RowKit Go.Proofs.YtjplcongellcmaaW.PrintWords Go.Proofs.YtjplcongellcmaaW.PrintLast Go.Proofs.YtjplcongellcmaaW.PrintMore
attribute [local go_sem] max2_int min2_int max_two min_two max_three min_three max_four min_four   -- for this text's walks alone
set_option linter.unusedVariables false
set_option linter.unusedSimpArgs false

/-! ### spec_DrawJoinBands: function 178 -/
def spec_DrawJoinBands.l0 : Nat → List Int → List Int → Int → Int → List Int → Int → Int → Option (List Int × List Int)
 | 0, _, _, _, _, _, _, _ => none
 | k + 1, x5, x6, x13, x14, x602000, x602001, x602002 => if x14 < x13 then ((spec_l1Cur_pick.f x602000 x602001 x602002 61).bind fun bt607 => (if x6.length < 17592186044416 then (spec_DrawJoinBands.l0 k x5 (x6 ++ [wrap64 (bt607.1 - 30)]) x13 (wrap64 (x14 + 1)) x602000 bt607.2.1 bt607.2.2) else (none))) else ((spec_l1Cur_one.f x602000 x602001 x602002 8).bind fun bt613 => (if bt613.1 = true then ((spec_l1Cur_signal.f k x602000 bt613.2.1 bt613.2.2 8 50).bind fun bt616 => (some (x5, bt616.1))) else (some (x5, x6))))
def spec_DrawJoinBands.f (k : Nat) (l0 : List Int) : Option (List Int × List Int) := (spec_l1Cur_signal.f k l0 0 0 8 50).bind fun bt602 => (spec_DrawJoinBands.l0 k bt602.1 ([] : List Int) (bt602.1.length : Int) 0 l0 bt602.2.1 bt602.2.2)
theorem spec_DrawJoinBands.mono_l : ∀ k, (∀ y0 y1 y2 y3 y4 y5 y6, LeO (spec_DrawJoinBands.l0 k y0 y1 y2 y3 y4 y5 y6) (spec_DrawJoinBands.l0 (k + 1) y0 y1 y2 y3 y4 y5 y6))
 | 0 => fun _ _ _ _ _ _ _ r h => by simp [spec_DrawJoinBands.l0] at h
 | k + 1 => by
  have ih0 := spec_DrawJoinBands.mono_l k
  have m0 := @spec_l1Cur_signal.mono
  intros
  unfold spec_DrawJoinBands.l0
  exact xM
theorem spec_DrawJoinBands.mono : ∀ a0 k, LeO (spec_DrawJoinBands.f k a0) (spec_DrawJoinBands.f (k + 1) a0) := by
 intro a0 k
 have ih0 := spec_DrawJoinBands.mono_l k
 have m0 := @spec_l1Cur_signal.mono
 unfold spec_DrawJoinBands.f
 exact xM
set_option maxHeartbeats 8000000 in
set_option maxRecDepth 100000 in
theorem spec_DrawJoinBands.calls (k : Nat) (A0 : Option Addr) (c0 : Nat) (l0 : List Int) (r1 : List Int) (r2 : List Int) (w : World) (hr0 : Kd.C (Kd.int .u8) w A0 l0.length l0) (hc0 : l0.length ≤ c0) (h : spec_DrawJoinBands.f k l0 = some (r1, r2)) :
  Calls Try.prog 178 #[.slice A0 l0.length c0] w fun e w' => ∃ v0_ v1_ : Value, e = .returned (.tuple #[v0_, v1_]) ∧ Kd.R (Kd.int .i64) 3 w' w.heap.size (fun k_ => some k_ ≠ (v1_ : Value).ownBlock) v0_ r1 ∧ Kd.R (Kd.int .i64) 3 w' w.heap.size (fun k_ => some k_ ≠ (v0_ : Value).ownBlock) v1_ r2 ∧ Below w.heap.size w w' := by
 have hu129 := Try.underlying129
 have HR0 := Aside0.mk hr0
 have HC0 := Aside0.mk hc0
 clear hr0 hc0
 have HB := Aside0.mk (Below.refl w.heap.size w)
 have H : ((spec_l1Cur_signal.f k l0 0 0 8 50).bind fun bt602 => (spec_DrawJoinBands.l0 k bt602.1 ([] : List Int) (bt602.1.length : Int) 0 l0 bt602.2.1 bt602.2.2)) = some (r1, r2) := h
 clear h
 replace H := Option.bind_eq_some_iff.mp H
 obtain ⟨⟨t602, t605, t606⟩, A20, H⟩ := H
 (try dsimp only at H)
 have A2 := Aside0.mk A20
 clear A20
 have H' := Aside0.mk H
 clear H
 go_enter Try.func178, Try.ntmps178
 go_wp2_with (first | (refine xV 9 #[.slice A0 l0.length c0, .int .i64 0, .int .u64 0] 129 ?_; intro gb601 hg w3 hbox hb; have HI601 := Aside0.mk ((show IsS129 w _ gb601 l0 0 0 from ⟨_, _, hbox, (by rw [hg]; exact (below_size (xB HB.out)) : w.heap.size ≤ gb601), HR0.out⟩)); replace HB := Aside0.mk (below_step (xB HB.out) hb); clear hb hbox hg) | (refine xG (some 11) Try.func214 #[.pointer (some ⟨gb601, 0, none⟩), .int .i64 8, .int .i64 50] ?_; (with_reducible refine (spec_l1Cur_signal.calls k gb601 l0 0 0 8 50 t602 t605 t606 w _ ?side1 ?side2 A2.out).mono ?_); (case side1 => repeat (first | (with_reducible first | exact HI601.out | apply IsS129.alloc | apply IsS129.drewN | apply IsS129.drew | apply IsS129.set_1 | apply IsS129.set_2) | exact HI601.out)); (case side2 => repeat (first | (with_reducible first | exact HB.out | apply below_alloc | apply pw_below_drewN | apply below_drew1 | refine below_set ?_ (IsS129.ge HI601.out)) | exact HB.out)); rintro e w4 ⟨v603, rfl, ho0, hi, hb, hk⟩; refine ⟨_, rfl, ?_⟩; have HO604 := Aside0.mk (Kd.R_lower ho0 (below_size (by repeat (first | (with_reducible first | exact HB.out | apply below_alloc | apply pw_below_drewN | apply below_drew1 | refine below_set ?_ (IsS129.ge HI601.out)) | exact HB.out)))); replace HB := Aside0.mk (hb); replace HI601 := Aside0.mk (hi); (try clear hb); (try clear hb2); (try clear hk); (try clear hi); (try clear ho0); obtain ⟨Ao5, co5, eo5⟩ := Kd.R_slice HO604.out; subst eo5))
 go_loopg [6, 14] k (fun kq v6 v14 w' => ∃ (x6_1 : List Int) (x14_1 : Int) (x602001_1 : Int) (x602002_1 : Int), v14 = .int .i64 x14_1 ∧ Aside0 (spec_DrawJoinBands.l0 kq t602 x6_1 (t602.length : Int) x14_1 l0 x602001_1 x602002_1 = some (r1, r2)) ∧ Aside0 (kq ≤ k) ∧ Aside0 (Kd.R (Kd.int .i64) 3 w' w.heap.size (fun k_ => some k_ ≠ (v6 : Value).ownBlock) (.slice Ao5 t602.length co5) t602) ∧ Aside0 (Kd.R (Kd.int .i64) 3 w' w.heap.size (fun k_ => some k_ ≠ ((.slice Ao5 t602.length co5) : Value).ownBlock) v6 x6_1) ∧ Aside0 (IsS129 w w' gb601 l0 x602001_1 x602002_1) ∧ Aside0 (Below w.heap.size w w'))
 case atStart => exact ⟨(([] : List Int)), (0), (t605), (t606), (by first | rfl | (simp; done) | (simp [*]; done)), H', ⟨Nat.le_refl _⟩, ⟨by (with_reducible repeat (first | apply Kd.R_alloc | apply Kd.R_drewN | apply Kd.R_drew)); exact Kd.R_mono HO604.out (fun _ hk => (by simp [Value.ownBlock]))⟩, ⟨by first | exact Kd.R_nil _ _ _ _ _ | exact Kd.N_nil _ _ _ _ _ | exact Kd.V_nil _ _ _ _ _ | exact Kd.Q_nil _ _ _ _ _ | exact Kd.S_nil _ _ _ _ _⟩, ⟨by repeat (first | (with_reducible first | exact HI601.out | apply IsS129.alloc | apply IsS129.drewN | apply IsS129.drew | apply IsS129.set_1 | apply IsS129.set_2) | exact HI601.out)⟩, ⟨by repeat (first | (with_reducible first | exact HB.out | apply below_alloc | apply pw_below_drewN | apply below_drew1 | refine below_set ?_ (IsS129.ge HI601.out)) | exact HB.out)⟩⟩
 case round =>
  clear H'
  obtain ⟨x6_1, x14_1, x602001_1, x602002_1, rfl, HA, HK1, HO_5, HO_6, HI601, HB⟩ := hrel
  cases gk with
  | zero => exact absurd HA.out (by simp [spec_DrawJoinBands.l0])
  | succ k1 =>
   have H := HA.out
   clear HA
   simp only [spec_DrawJoinBands.l0] at H
   by_cases c6 : x14_1 < (t602.length : Int)
   ·rw [if_pos c6] at H
    have c6b0 : decide (x14_1 < (t602.length : Int)) = true := decide_eq_true c6
    clear c6
    replace H := Option.bind_eq_some_iff.mp H
    obtain ⟨⟨t607, t608, t609⟩, A70, H⟩ := H
    (try dsimp only at H)
    have A7 := Aside0.mk A70
    clear A70
    by_cases c8 : x6_1.length < 17592186044416
    rotate_left
    ·rw [if_neg c8] at H
     exact absurd H (by simp)
    rw [if_pos c8] at H
    have LMc8 := Aside0.mk c8
    clear c8
    obtain ⟨y610, hy610⟩ : ∃ y_ : List Int, y_ = (x6_1 ++ [wrap64 (t607 - 30)]) := ⟨_, rfl⟩
    replace H : (spec_DrawJoinBands.l0 k1 t602 y610 (t602.length : Int) (wrap64 (x14_1 + 1)) l0 t608 t609) = some (r1, r2) := by first | (rw [hy610]; with_reducible exact H) | (have H2_ := (Option.bind_some _ _).symm.trans H; rw [hy610]; with_reducible exact H2_) | (have H2_ := (Option.bind_some _ _).symm.trans H; with_reducible exact H2_) | with_reducible exact H | (rw [hy610]; exact H) | exact H
    have Ny610 := Aside0.mk hy610
    clear hy610
    have H' := Aside0.mk H
    clear H
    go_wp2_with (first | (refine xG (some 18) Try.func229 #[.pointer (some ⟨gb601, 0, none⟩), .int .i64 61] ?_; (with_reducible refine (spec_l1Cur_pick.calls gb601 l0 x602001_1 x602002_1 61 t607 t608 t609 w _ ?side1 ?side2 A7.out).mono ?_); (case side1 => repeat (first | (with_reducible first | exact HI601.out | apply IsS129.alloc | apply IsS129.drewN | apply IsS129.drew | apply IsS129.set_1 | apply IsS129.set_2) | exact HI601.out)); (case side2 => repeat (first | (with_reducible first | exact HB.out | apply below_alloc | apply pw_below_drewN | apply below_drew1 | refine below_set ?_ (IsS129.ge HI601.out)) | exact HB.out)); rintro e w9 ⟨rfl, hi, hb, hk⟩; refine ⟨_, rfl, ?_⟩; replace HO_5 := Aside0.mk (Kd.R_mono (Kd.R_keep (IsS129.apart (show IsS129 w _ gb601 l0 x602001_1 x602002_1 from by repeat (first | (with_reducible first | exact HI601.out | apply IsS129.alloc | apply IsS129.drewN | apply IsS129.drew | apply IsS129.set_1 | apply IsS129.set_2) | exact HI601.out)) (xR HO_5.out) (by decide)) hk (fun _ h => h.2)) (fun _ h => h.1)); replace HO_6 := Aside0.mk (Kd.R_mono (Kd.R_keep (IsS129.apart (show IsS129 w _ gb601 l0 x602001_1 x602002_1 from by repeat (first | (with_reducible first | exact HI601.out | apply IsS129.alloc | apply IsS129.drewN | apply IsS129.drew | apply IsS129.set_1 | apply IsS129.set_2) | exact HI601.out)) (xR HO_6.out) (by decide)) hk (fun _ h => h.2)) (fun _ h => h.1)); replace HB := Aside0.mk (hb); replace HI601 := Aside0.mk (hi); (try clear hb); (try clear hb2); (try clear hk); (try clear hi)) | ((with_reducible refine gate_builtin (b := .append) (xs := #[.tmp 16, .tmp 20]) rfl ?_); at_builtin; refine Kd.R_append (Kd.int .i64) (w0 := w) w.heap.size rfl (.tmp 16) (.tmp 20) 24 3 (.int .i64 0) 8 rfl Try.underlying24 info3 rfl (by decide) (by omega) u6 x6_1 (wrap64 (t607 - 30)) [.int .i64 (wrap64 (t607 - 30))] (fun k_ => some k_ ≠ (.slice Ao5 t602.length co5 : Value).ownBlock) (fun _ => False) rfl rfl ?aP (fun _ hk => hk.elim) ?aF ?aO ?aB ?aS ?aL ?_; (case aP => exact rfl); (case aB => exact (by repeat (first | (with_reducible first | exact HB.out | apply below_alloc | apply pw_below_drewN | apply below_drew1 | refine below_set ?_ (IsS129.ge HI601.out)) | exact HB.out))); (case aF => exact (fun k_ hk => Kd.fresh' (Kd.R_lt (xR HO_5.out)) k_ hk)); (case aO => exact (xR HO_6.out)); (case aS => exact (below_size (by repeat (first | (with_reducible first | exact HB.out | apply below_alloc | apply pw_below_drewN | apply below_drew1 | refine below_set ?_ (IsS129.ge HI601.out)) | exact HB.out)))); (case aL => have := LMc8.out; omega); intro v611 w10 ho hb hg hat; rw [← Ny610.out] at ho; replace HO_5 := Aside0.mk (Kd.R_after (ok := (fun _ => True)) (by (with_reducible repeat (first | apply Kd.R_alloc | apply Kd.R_drewN | apply Kd.R_drew)); exact Kd.R_mono HO_5.out (fun _ hk => ⟨trivial, hk⟩)) hg hat); replace HI601 := Aside0.mk (IsS129.grown (by repeat (first | (with_reducible first | exact HI601.out | apply IsS129.alloc | apply IsS129.drewN | apply IsS129.drew | apply IsS129.set_1 | apply IsS129.set_2) | exact HI601.out)) hg (IsS129.own_ne HI601.out HO_6.out (by decide))); replace HB := Aside0.mk (hb); have HO612 := Aside0.mk (ho); clear HO_6; clear ho hb hg hat))
    go_roundg k1
    case measure => have := HK1.out; omega
    case rel => exact ⟨(y610), (wrap64 (x14_1 + 1)), (t608), (t609), (by first | rfl | (simp; done) | (simp [*]; done)), H', ⟨by have := HK1.out; omega⟩, ⟨by (with_reducible repeat (first | apply Kd.R_alloc | apply Kd.R_drewN | apply Kd.R_drew)); exact Kd.R_mono HO_5.out (fun _ hk => hk.2)⟩, ⟨xR HO612.out⟩, ⟨by repeat (first | (with_reducible first | exact HI601.out | apply IsS129.alloc | apply IsS129.drewN | apply IsS129.drew | apply IsS129.set_1 | apply IsS129.set_2) | exact HI601.out)⟩, ⟨by repeat (first | (with_reducible first | exact HB.out | apply below_alloc | apply pw_below_drewN | apply below_drew1 | refine below_set ?_ (IsS129.ge HI601.out)) | exact HB.out)⟩⟩
   rw [if_neg c6] at H
   have c6b0 : decide (x14_1 < (t602.length : Int)) = false := decide_eq_false c6
   clear c6
   replace H := Option.bind_eq_some_iff.mp H
   obtain ⟨⟨t613, t614, t615⟩, A110, H⟩ := H
   (try dsimp only at H)
   have A11 := Aside0.mk A110
   clear A110
   by_cases c12 : t613 = true
   rotate_left
   ·replace c12 := Bool.eq_false_iff.mpr c12
    subst c12
    rw [if_neg (show ¬ (false = true) by decide)] at H
    simp only [Option.some.injEq, Prod.mk.injEq] at H
    obtain ⟨rfl, rfl⟩ := H
    go_wp2_with (first | (refine xG (some 24) Try.func227 #[.pointer (some ⟨gb601, 0, none⟩), .int .i64 8] ?_; (with_reducible refine (spec_l1Cur_one.calls gb601 l0 x602001_1 x602002_1 8 false t614 t615 w _ ?side1 ?side2 A11.out).mono ?_); (case side1 => repeat (first | (with_reducible first | exact HI601.out | apply IsS129.alloc | apply IsS129.drewN | apply IsS129.drew | apply IsS129.set_1 | apply IsS129.set_2) | exact HI601.out)); (case side2 => repeat (first | (with_reducible first | exact HB.out | apply below_alloc | apply pw_below_drewN | apply below_drew1 | refine below_set ?_ (IsS129.ge HI601.out)) | exact HB.out)); rintro e w16 ⟨rfl, hi, hb, hk⟩; refine ⟨_, rfl, ?_⟩; replace HO_5 := Aside0.mk (Kd.R_mono (Kd.R_keep (IsS129.apart (show IsS129 w _ gb601 l0 x602001_1 x602002_1 from by repeat (first | (with_reducible first | exact HI601.out | apply IsS129.alloc | apply IsS129.drewN | apply IsS129.drew | apply IsS129.set_1 | apply IsS129.set_2) | exact HI601.out)) (xR HO_5.out) (by decide)) hk (fun _ h => h.2)) (fun _ h => h.1)); replace HO_6 := Aside0.mk (Kd.R_mono (Kd.R_keep (IsS129.apart (show IsS129 w _ gb601 l0 x602001_1 x602002_1 from by repeat (first | (with_reducible first | exact HI601.out | apply IsS129.alloc | apply IsS129.drewN | apply IsS129.drew | apply IsS129.set_1 | apply IsS129.set_2) | exact HI601.out)) (xR HO_6.out) (by decide)) hk (fun _ h => h.2)) (fun _ h => h.1)); replace HB := Aside0.mk (hb); replace HI601 := Aside0.mk (hi); (try clear hb); (try clear hb2); (try clear hk); (try clear hi)))
    go_ret2
    exact ⟨_, _, by first | rfl | (simp [errW_none, errW_some] <;> rfl) | (simp [*, errW_none, errW_some] <;> rfl), xR HO_5.out, xR HO_6.out, by repeat (first | (with_reducible first | exact HB.out | apply below_alloc | apply pw_below_drewN | apply below_drew1 | refine below_set ?_ (IsS129.ge HI601.out)) | exact HB.out)⟩

   subst c12
   rw [if_pos rfl] at H
   replace H := Option.bind_eq_some_iff.mp H
   obtain ⟨⟨t616, t619, t620⟩, A130, H⟩ := H
   (try dsimp only at H)
   have A13 := Aside0.mk A130
   clear A130
   simp only [Option.some.injEq, Prod.mk.injEq] at H
   obtain ⟨rfl, rfl⟩ := H
   go_wp2_with (first | (refine xG (some 24) Try.func227 #[.pointer (some ⟨gb601, 0, none⟩), .int .i64 8] ?_; (with_reducible refine (spec_l1Cur_one.calls gb601 l0 x602001_1 x602002_1 8 true t614 t615 w _ ?side1 ?side2 A11.out).mono ?_); (case side1 => repeat (first | (with_reducible first | exact HI601.out | apply IsS129.alloc | apply IsS129.drewN | apply IsS129.drew | apply IsS129.set_1 | apply IsS129.set_2) | exact HI601.out)); (case side2 => repeat (first | (with_reducible first | exact HB.out | apply below_alloc | apply pw_below_drewN | apply below_drew1 | refine below_set ?_ (IsS129.ge HI601.out)) | exact HB.out)); rintro e w14 ⟨rfl, hi, hb, hk⟩; refine ⟨_, rfl, ?_⟩; replace HO_5 := Aside0.mk (Kd.R_mono (Kd.R_keep (IsS129.apart (show IsS129 w _ gb601 l0 x602001_1 x602002_1 from by repeat (first | (with_reducible first | exact HI601.out | apply IsS129.alloc | apply IsS129.drewN | apply IsS129.drew | apply IsS129.set_1 | apply IsS129.set_2) | exact HI601.out)) (xR HO_5.out) (by decide)) hk (fun _ h => h.2)) (fun _ h => h.1)); replace HO_6 := Aside0.mk (Kd.R_mono (Kd.R_keep (IsS129.apart (show IsS129 w _ gb601 l0 x602001_1 x602002_1 from by repeat (first | (with_reducible first | exact HI601.out | apply IsS129.alloc | apply IsS129.drewN | apply IsS129.drew | apply IsS129.set_1 | apply IsS129.set_2) | exact HI601.out)) (xR HO_6.out) (by decide)) hk (fun _ h => h.2)) (fun _ h => h.1)); replace HB := Aside0.mk (hb); replace HI601 := Aside0.mk (hi); (try clear hb); (try clear hb2); (try clear hk); (try clear hi)) | (refine xG (some 26) Try.func214 #[.pointer (some ⟨gb601, 0, none⟩), .int .i64 8, .int .i64 50] ?_; (with_reducible refine (spec_l1Cur_signal.calls k1 gb601 l0 t614 t615 8 50 t616 t619 t620 w _ ?side1 ?side2 A13.out).mono ?_); (case side1 => repeat (first | (with_reducible first | exact HI601.out | apply IsS129.alloc | apply IsS129.drewN | apply IsS129.drew | apply IsS129.set_1 | apply IsS129.set_2) | exact HI601.out)); (case side2 => repeat (first | (with_reducible first | exact HB.out | apply below_alloc | apply pw_below_drewN | apply below_drew1 | refine below_set ?_ (IsS129.ge HI601.out)) | exact HB.out)); rintro e w15 ⟨v617, rfl, ho0, hi, hb, hk⟩; refine ⟨_, rfl, ?_⟩; have HO618 := Aside0.mk (Kd.R_lower (Kd.R_new' (Kd.R_new' ho0 (Kd.R_lt (xR HO_5.out))) (Kd.R_lt (xR HO_6.out))) (below_size (by repeat (first | (with_reducible first | exact HB.out | apply below_alloc | apply pw_below_drewN | apply below_drew1 | refine below_set ?_ (IsS129.ge HI601.out)) | exact HB.out)))); replace HO_5 := Aside0.mk (Kd.R_mono (Kd.R_told (Kd.R_oldK (IsS129.apart (show IsS129 w _ gb601 l0 t614 t615 from by repeat (first | (with_reducible first | exact HI601.out | apply IsS129.alloc | apply IsS129.drewN | apply IsS129.drew | apply IsS129.set_1 | apply IsS129.set_2) | exact HI601.out)) (xR HO_5.out) (by decide)) hk) (Kd.R_base ho0)) (fun _ h_ => h_.1)); replace HO_6 := Aside0.mk (Kd.R_mono (Kd.R_told (Kd.R_oldK (IsS129.apart (show IsS129 w _ gb601 l0 t614 t615 from by repeat (first | (with_reducible first | exact HI601.out | apply IsS129.alloc | apply IsS129.drewN | apply IsS129.drew | apply IsS129.set_1 | apply IsS129.set_2) | exact HI601.out)) (xR HO_6.out) (by decide)) hk) (Kd.R_base ho0)) (fun _ h_ => h_.1)); replace HB := Aside0.mk (hb); replace HI601 := Aside0.mk (hi); (try clear hb); (try clear hb2); (try clear hk); (try clear hi); (try clear ho0)))
   go_ret2
   exact ⟨_, _, by first | rfl | (simp [errW_none, errW_some] <;> rfl) | (simp [*, errW_none, errW_some] <;> rfl), by (with_reducible repeat (first | apply Kd.R_alloc | apply Kd.R_drewN | apply Kd.R_drew)); exact Kd.R_mono HO_5.out (fun _ hk => hk.2), by (with_reducible repeat (first | apply Kd.R_alloc | apply Kd.R_drewN | apply Kd.R_drew)); exact Kd.R_mono HO618.out (fun _ hk => hk.1.2), by repeat (first | (with_reducible first | exact HB.out | apply below_alloc | apply pw_below_drewN | apply below_drew1 | refine below_set ?_ (IsS129.ge HI601.out)) | exact HB.out)⟩
/-! ### impl_JoinBands: function 179 -/
mutual
def impl_JoinBands.j0 : Nat → List Int → List Int → Bool → Option (List Int × Bool)
 | 0, _, _, _ => none
 | k + 1, x0, x1, x24 => if x24 = true then (some (([] : List Int), false)) else (impl_JoinBands.l0 k x1 (([] : List Int)) x0 (x0.length : Int) 0)
def impl_JoinBands.l0 : Nat → List Int → List Int → List Int → Int → Int → Option (List Int × Bool)
 | 0, _, _, _, _, _ => none
 | k + 1, x1, x6, x26, x27, x28 => if x28 < x27 then (if 0 ≤ x28 then (if x28 < (x26.length : Int) then (if x28 < (x1.length : Int) then ((some (([wrap64 ((rd x26 x28) + ((wrap64 ((rd x1 x28) + 1)) / 2)), wrap64 ((wrap64 ((rd x26 x28) + ((wrap64 ((rd x1 x28) + 1)) / 2))) - (rd x1 x28))] : List Int) : List Int)).bind fun y629 => (if x6.length + y629.length < 17592186044416 then (impl_JoinBands.l0 k x1 (x6 ++ y629) x26 x27 (wrap64 (x28 + 1))) else (none))) else (none)) else (none)) else (none)) else ((impl_told.f k x6).bind fun bt635 => (some (bt635.1, bt635.2)))
end
def impl_JoinBands.f (k : Nat) (l0 : List Int) (l1 : List Int) : Option (List Int × Bool) := (impl_isSignal.f k l0).bind fun t621 => (if t621 = true then ((impl_isSignal.f k l1).bind fun t622 => (if t622 = true then (impl_JoinBands.j0 k l0 l1 ((l0.length : Int) != (l1.length : Int))) else (impl_JoinBands.j0 k l0 l1 true))) else (impl_JoinBands.j0 k l0 l1 true))
theorem impl_JoinBands.mono_l : ∀ k, (∀ y0 y1 y2, LeO (impl_JoinBands.j0 k y0 y1 y2) (impl_JoinBands.j0 (k + 1) y0 y1 y2)) ∧ (∀ y0 y1 y2 y3 y4, LeO (impl_JoinBands.l0 k y0 y1 y2 y3 y4) (impl_JoinBands.l0 (k + 1) y0 y1 y2 y3 y4))
 | 0 => ⟨fun _ _ _ r h => by simp [impl_JoinBands.j0] at h, fun _ _ _ _ _ r h => by simp [impl_JoinBands.l0] at h⟩
 | k + 1 => by
  obtain ⟨ih0, ih1⟩ := impl_JoinBands.mono_l k
  have m0 := @impl_isSignal.mono
  have m1 := @impl_told.mono
  refine ⟨?_, ?_⟩ <;> intros
  ·unfold impl_JoinBands.j0; exact xM
  ·unfold impl_JoinBands.l0; exact xM
theorem impl_JoinBands.mono : ∀ a0 a1 k, LeO (impl_JoinBands.f k a0 a1) (impl_JoinBands.f (k + 1) a0 a1) := by
 intro a0 a1 k
 obtain ⟨ih0, ih1⟩ := impl_JoinBands.mono_l k
 have m0 := @impl_isSignal.mono
 have m1 := @impl_told.mono
 unfold impl_JoinBands.f
 exact xM
set_option maxHeartbeats 8000000 in
set_option maxRecDepth 100000 in
theorem impl_JoinBands.calls (k : Nat) (A0 : Option Addr) (c0 : Nat) (l0 : List Int) (A1 : Option Addr) (c1 : Nat) (l1 : List Int) (r1 : List Int) (r2 : Bool) (w : World) (hr0 : Kd.C (Kd.int .i64) w A0 l0.length l0) (hc0 : l0.length ≤ c0) (hr1 : Kd.C (Kd.int .i64) w A1 l1.length l1) (hc1 : l1.length ≤ c1) (h : impl_JoinBands.f k l0 l1 = some (r1, r2)) :
  Calls Try.prog 179 #[.slice A0 l0.length c0, .slice A1 l1.length c1] w fun e w' => ∃ v0_ : Value, e = .returned (.tuple #[v0_, .bool r2]) ∧ Kd.R (Kd.int .i64) 3 w' w.heap.size (fun _ => True) v0_ r1 ∧ Below w.heap.size w w' := by
 have HR0 := Aside0.mk hr0
 have HC0 := Aside0.mk hc0
 clear hr0 hc0
 have HR1 := Aside0.mk hr1
 have HC1 := Aside0.mk hc1
 clear hr1 hc1
 have HB := Aside0.mk (Below.refl w.heap.size w)
 have H : ((impl_isSignal.f k l0).bind fun t621 => (if t621 = true then ((impl_isSignal.f k l1).bind fun t622 => (if t622 = true then (impl_JoinBands.j0 k l0 l1 ((l0.length : Int) != (l1.length : Int))) else (impl_JoinBands.j0 k l0 l1 true))) else (impl_JoinBands.j0 k l0 l1 true))) = some (r1, r2) := h
 clear h
 have HC3 := Aside0.mk H
 clear H
 go_enter Try.func179, Try.ntmps179
 go_upto_region 1 with (fail)
 go_cut [24] (fun v24 wc => ∃ (kq : Nat) (x24_2 : Bool), v24 = .bool x24_2 ∧ Aside0 (impl_JoinBands.j0 kq l0 l1 x24_2 = some (r1, r2)) ∧ Aside0 (kq ≤ k) ∧ Aside0 (Below w.heap.size w wc))
 case first => as_aux_lemma =>
  have H := HC3.out
  clear HC3
  obtain ⟨t621, A4, H⟩ := xO H
  (try dsimp only at H)
  by_cases c5 : t621 = true
  rotate_left
  ·replace c5 := Bool.eq_false_iff.mpr c5
   subst c5
   rw [if_neg (show ¬ (false = true) by decide)] at H
   have H' := Aside0.mk H
   clear H
   go_wp2_with (first | (refine xG (some 11) Try.func233 #[.slice A0 l0.length c0] ?_; (with_reducible refine (impl_isSignal.calls k _ _ l0 false _ ?side1 ?side2 A4.out).mono ?_); (case side1 => exact xC (Kd.C_below HR0.out HB.out)); (case side2 => exact HC0.out); rintro e w' ⟨rfl, ⟨nd, rfl⟩⟩; refine ⟨_, rfl, ?_⟩))
   go_meet
   case rel => exact ⟨_, (true), (by first | rfl | (simp; done) | (simp [*]; done)), H', ⟨by first | omega | exact Nat.le_refl _⟩, ⟨xB HB.out⟩⟩
  subst c5
  rw [if_pos rfl] at H
  obtain ⟨t622, A6, H⟩ := xO H
  (try dsimp only at H)
  by_cases c7 : t622 = true
  ·subst c7
   rw [if_pos rfl] at H
   have H' := Aside0.mk H
   clear H
   go_wp2_with (first | (refine xG (some 11) Try.func233 #[.slice A0 l0.length c0] ?_; (with_reducible refine (impl_isSignal.calls k _ _ l0 true _ ?side1 ?side2 A4.out).mono ?_); (case side1 => exact xC (Kd.C_below HR0.out HB.out)); (case side2 => exact HC0.out); rintro e w' ⟨rfl, ⟨nd, rfl⟩⟩; refine ⟨_, rfl, ?_⟩) | (go_at_call 233; (with_reducible refine (impl_isSignal.calls k _ _ l1 true _ ?side1 ?side2 A6.out).mono ?_); (case side1 => repeat (first | exact (Kd.C_below HR1.out (xB HB.out)) | (with_reducible refine Kd.C_alloc ?_ _) | (with_reducible refine Kd.C_drewN ?_ _) | (with_reducible refine Kd.C_drew ?_))); (case side2 => exact HC1.out); rintro e w' ⟨rfl, ⟨nd, rfl⟩⟩))
   go_meet
   case rel => exact ⟨_, (((l0.length : Int) != (l1.length : Int))), (by first | rfl | (simp; done) | (simp [*]; done)), H', ⟨by first | omega | exact Nat.le_refl _⟩, ⟨xB HB.out⟩⟩
  replace c7 := Bool.eq_false_iff.mpr c7
  subst c7
  rw [if_neg (show ¬ (false = true) by decide)] at H
  have H' := Aside0.mk H
  clear H
  go_wp2_with (first | (refine xG (some 11) Try.func233 #[.slice A0 l0.length c0] ?_; (with_reducible refine (impl_isSignal.calls k _ _ l0 true _ ?side1 ?side2 A4.out).mono ?_); (case side1 => exact xC (Kd.C_below HR0.out HB.out)); (case side2 => exact HC0.out); rintro e w' ⟨rfl, ⟨nd, rfl⟩⟩; refine ⟨_, rfl, ?_⟩) | (go_at_call 233; (with_reducible refine (impl_isSignal.calls k _ _ l1 false _ ?side1 ?side2 A6.out).mono ?_); (case side1 => repeat (first | exact (Kd.C_below HR1.out (xB HB.out)) | (with_reducible refine Kd.C_alloc ?_ _) | (with_reducible refine Kd.C_drewN ?_ _) | (with_reducible refine Kd.C_drew ?_))); (case side2 => exact HC1.out); rintro e w' ⟨rfl, ⟨nd, rfl⟩⟩))
  go_meet
  case rel => exact ⟨_, (true), (by first | rfl | (simp; done) | (simp [*]; done)), H', ⟨by first | omega | exact Nat.le_refl _⟩, ⟨xB HB.out⟩⟩
 case rest => as_aux_lemma =>
  clear HC3
  try clear c1
  obtain ⟨kq, x24_2, rfl, HA, HJ2, HB⟩ := hcut
  cases kq with
  | zero => exact absurd HA.out (by simp [impl_JoinBands.j0])
  | succ kj2 =>
   have H := HA.out
   clear HA
   simp only [impl_JoinBands.j0] at H
   by_cases c8 : x24_2 = true
   ·subst c8
    rw [if_pos rfl] at H
    simp only [Option.some.injEq, Prod.mk.injEq] at H
    obtain ⟨rfl, rfl⟩ := H
    go_wp2
    go_ret2
    exact ⟨_, by first | rfl | (simp [errW_none, errW_some] <;> rfl) | (simp [*, errW_none, errW_some] <;> rfl), by first | exact Kd.R_nil _ _ _ _ _ | exact Kd.N_nil _ _ _ _ _ | exact Kd.V_nil _ _ _ _ _ | exact Kd.Q_nil _ _ _ _ _ | exact Kd.S_nil _ _ _ _ _, xB HB.out⟩
   replace c8 := Bool.eq_false_iff.mpr c8
   subst c8
   rw [if_neg (show ¬ (false = true) by decide)] at H
   obtain ⟨y623, hy623⟩ : ∃ y_ : List Int, y_ = (([] : List Int)) := ⟨_, rfl⟩
   replace H : (impl_JoinBands.l0 kj2 l1 y623 l0 (l0.length : Int) 0) = some (r1, r2) := by first | (rw [hy623]; with_reducible exact H) | (have H2_ := (Option.bind_some _ _).symm.trans H; rw [hy623]; with_reducible exact H2_) | (have H2_ := (Option.bind_some _ _).symm.trans H; with_reducible exact H2_) | with_reducible exact H | (rw [hy623]; exact H) | exact H
   have Ny623 := Aside0.mk hy623
   clear hy623
   have H' := Aside0.mk H
   clear H
   go_wp2_with (first | ((with_reducible refine gate_dst (N := 25) rfl ?_); (try (refine gate_guard (by rfl) ?_; dsimp only)); refine Kd.R_lit (Kd.int .i64) _ 3 ?hg (N := 25) ?hd (xs := ([] : List Int)) (inner := []) (ok := fun _ => True) (okp := fun _ => True) ?hr ?hp (fun _ hk => hk) trivial (Below.refl _ _) (Nat.le_refl _) (by simp) ?_; (case hd => rfl); (case hg => rfl); (case hr => first | (go_simp; done) | (go_simp; rfl)); (case hp => exact (Reps.none _ _)); intro v624 w9 ho10 hb hg_ hnew_; clear hg_ hnew_; (first | rw [← Ny623.out] at ho10 | (simp only [Int.reduceToNat] at ho10; rw [← Ny623.out] at ho10)); have HO625 := Aside0.mk (Kd.R_lower ho10 (below_size (xB HB.out))); replace HB := Aside0.mk (below_step (xB HB.out) hb); clear hb ho10))
   go_loopg [6, 28] kj2 (fun kq v6 v28 w' => ∃ (x6_2 : List Int) (x28_2 : Int), v28 = .int .i64 x28_2 ∧ Aside0 (impl_JoinBands.l0 kq l1 x6_2 l0 (l0.length : Int) x28_2 = some (r1, r2)) ∧ Aside0 (kq ≤ kj2) ∧ Aside0 (Kd.R (Kd.int .i64) 3 w' w.heap.size (fun _ => True) v6 x6_2) ∧ Aside0 (Below w.heap.size w w'))
   case atStart => exact ⟨(y623), (0), (by first | rfl | (simp; done) | (simp [*]; done)), H', ⟨Nat.le_refl _⟩, ⟨xR HO625.out⟩, ⟨xB HB.out⟩⟩
   case round =>
    clear H'
    try clear c8
    obtain ⟨x6_2, x28_2, rfl, HA, HK2, HO_6, HB⟩ := hrel
    cases gk with
    | zero => exact absurd HA.out (by simp [impl_JoinBands.l0])
    | succ k2 =>
     have H := HA.out
     clear HA
     simp only [impl_JoinBands.l0] at H
     by_cases c11 : x28_2 < (l0.length : Int)
     rotate_left
     ·rw [if_neg c11] at H
      have c11b0 : decide (x28_2 < (l0.length : Int)) = false := decide_eq_false c11
      clear c11
      replace H := Option.bind_eq_some_iff.mp H
      obtain ⟨⟨t635, t638⟩, A200, H⟩ := H
      (try dsimp only at H)
      have A20 := Aside0.mk A200
      clear A200
      simp only [Option.some.injEq, Prod.mk.injEq] at H
      obtain ⟨rfl, rfl⟩ := H
      obtain ⟨Ao21, co21, eo21⟩ := Kd.R_slice HO_6.out
      subst eo21
      go_wp2_with (first | (refine xG (some 53) Try.func239 #[.slice Ao21 x6_2.length co21] ?_; (with_reducible refine (impl_told.calls k2 (fun k_ => some k_ = (.slice Ao21 x6_2.length co21 : Value).ownBlock) (.slice Ao21 x6_2.length co21) x6_2 t635 t638 w _ ?side1 ?side2 A20.out).mono ?_); (case side1 => repeat (first | (with_reducible first | exact HB.out | apply below_alloc | apply pw_below_drewN | apply below_drew1) | exact HB.out)); (case side2 => exact Kd.R_tight rfl HO_6.out); rintro e w22 ⟨v636, rfl, ho0, hb, hkp⟩; refine ⟨_, rfl, ?_⟩; have HO637 := Aside0.mk (Kd.R_mono (ok' := fun k_ => True) ho0 (fun k_ hk_ => trivial)); replace HB := Aside0.mk (hb); clear HO_6; (try clear hb); (try clear hkp); (try clear ho0)))
      go_ret2
      exact ⟨_, by first | rfl | (simp [errW_none, errW_some] <;> rfl) | (simp [*, errW_none, errW_some] <;> rfl), xR HO637.out, xB HB.out⟩

     rw [if_pos c11] at H
     have c11b0 : decide (x28_2 < (l0.length : Int)) = true := decide_eq_true c11
     clear c11
     by_cases c12 : 0 ≤ x28_2
     rotate_left
     ·rw [if_neg c12] at H
      exact absurd H (by simp)
     rw [if_pos c12] at H
     have c12b0 : decide (0 ≤ x28_2) = true := decide_eq_true c12
     clear c12
     by_cases c13 : x28_2 < (l0.length : Int)
     rotate_left
     ·rw [if_neg c13] at H
      exact absurd H (by simp)
     rw [if_pos c13] at H
     have c13b0 : decide (x28_2 < (l0.length : Int)) = true := decide_eq_true c13
     clear c13
     by_cases c14 : x28_2 < (l1.length : Int)
     rotate_left
     ·rw [if_neg c14] at H
      exact absurd H (by simp)
     rw [if_pos c14] at H
     have c14b0 : decide (x28_2 < (l1.length : Int)) = true := decide_eq_true c14
     clear c14
     obtain ⟨y629, hy629⟩ : ∃ y_ : List Int, y_ = (([wrap64 ((rd l0 x28_2) + ((wrap64 ((rd l1 x28_2) + 1)) / 2)), wrap64 ((wrap64 ((rd l0 x28_2) + ((wrap64 ((rd l1 x28_2) + 1)) / 2))) - (rd l1 x28_2))] : List Int)) := ⟨_, rfl⟩
     replace H : (if x6_2.length + y629.length < 17592186044416 then (impl_JoinBands.l0 k2 l1 (x6_2 ++ y629) l0 (l0.length : Int) (wrap64 (x28_2 + 1))) else (none)) = some (r1, r2) := by first | (rw [hy629]; with_reducible exact H) | (have H2_ := (Option.bind_some _ _).symm.trans H; rw [hy629]; with_reducible exact H2_) | (have H2_ := (Option.bind_some _ _).symm.trans H; with_reducible exact H2_) | with_reducible exact H | (rw [hy629]; exact H) | exact H
     have Ny629 := Aside0.mk hy629
     clear hy629
     by_cases c15 : x6_2.length + y629.length < 17592186044416
     rotate_left
     ·rw [if_neg c15] at H
      exact absurd H (by simp)
     rw [if_pos c15] at H
     have LMc15 := Aside0.mk c15
     clear c15
     obtain ⟨y632, hy632⟩ : ∃ y_ : List Int, y_ = (x6_2 ++ y629) := ⟨_, rfl⟩
     replace H : (impl_JoinBands.l0 k2 l1 y632 l0 (l0.length : Int) (wrap64 (x28_2 + 1))) = some (r1, r2) := by first | (rw [hy632]; with_reducible exact H) | (have H2_ := (Option.bind_some _ _).symm.trans H; rw [hy632]; with_reducible exact H2_) | (have H2_ := (Option.bind_some _ _).symm.trans H; with_reducible exact H2_) | with_reducible exact H | (rw [hy632]; exact H) | exact H
     have Ny632 := Aside0.mk hy632
     clear hy632
     have H' := Aside0.mk H
     clear H
     have p626 : 0 ≤ (x28_2 : Int) := of_decide_eq_true (by first | (with_reducible assumption) | assumption)
     have q626 : x28_2 < (l0.length : Int) := of_decide_eq_true (by first | (with_reducible assumption) | assumption)
     obtain ⟨ad626, e626, hx626_0⟩ := Kd.at_int HR0.out x28_2 p626 q626
     cases e626
     replace hx626_0 := (HB.out.cell (World.block_lt_of_cell? w _ hx626_0)).trans hx626_0
     replace p626 := eq_true p626
     replace q626 := eq_true q626
     have p627 : 0 ≤ (x28_2 : Int) := of_decide_eq_true (by first | (with_reducible assumption) | assumption)
     have q627 : x28_2 < (l1.length : Int) := of_decide_eq_true (by first | (with_reducible assumption) | assumption)
     obtain ⟨ad627, e627, hx627_0⟩ := Kd.at_int HR1.out x28_2 p627 q627
     cases e627
     replace hx627_0 := (HB.out.cell (World.block_lt_of_cell? w _ hx627_0)).trans hx627_0
     replace p627 := eq_true p627
     replace q627 := eq_true q627
     have p628 : 0 ≤ (x28_2 : Int) := of_decide_eq_true (by first | (with_reducible assumption) | assumption)
     have q628 : x28_2 < (l1.length : Int) := of_decide_eq_true (by first | (with_reducible assumption) | assumption)
     obtain ⟨ad628, e628, hx628_0⟩ := Kd.at_int HR1.out x28_2 p628 q628
     obtain rfl : ad627 = ad628 := (by injection e628)
     replace hx628_0 := (HB.out.cell (World.block_lt_of_cell? w _ hx628_0)).trans hx628_0
     replace p628 := eq_true p628
     replace q628 := eq_true q628
     go_wp2_with (first | ((with_reducible refine gate_dst (N := 49) rfl ?_); (try (refine gate_guard (by rfl) ?_; dsimp only)); refine Kd.R_lit (Kd.int .i64) _ 3 ?hg (N := 49) ?hd (xs := ([wrap64 ((rd l0 x28_2) + ((wrap64 ((rd l1 x28_2) + 1)) / 2)), wrap64 ((wrap64 ((rd l0 x28_2) + ((wrap64 ((rd l1 x28_2) + 1)) / 2))) - (rd l1 x28_2))] : List Int)) (inner := [.int .i64 (wrap64 ((rd l0 x28_2) + ((wrap64 ((rd l1 x28_2) + 1)) / 2))), .int .i64 (wrap64 ((wrap64 ((rd l0 x28_2) + ((wrap64 ((rd l1 x28_2) + 1)) / 2))) - (rd l1 x28_2)))]) (ok := fun _ => True) (okp := fun _ => True) ?hr ?hp (fun _ hk => hk) trivial (Below.refl _ _) (Nat.le_refl _) (by simp) ?_; (case hd => rfl); (case hg => rfl); (case hr => first | (go_simp; done) | (go_simp; rfl)); (case hp => exact (Reps.one (show Kd.M (Kd.int .i64) _ _ _ (wrap64 ((rd l0 x28_2) + ((wrap64 ((rd l1 x28_2) + 1)) / 2))) [.int .i64 (wrap64 ((rd l0 x28_2) + ((wrap64 ((rd l1 x28_2) + 1)) / 2)))] from rfl) (Reps.one (show Kd.M (Kd.int .i64) _ _ _ (wrap64 ((wrap64 ((rd l0 x28_2) + ((wrap64 ((rd l1 x28_2) + 1)) / 2))) - (rd l1 x28_2))) [.int .i64 (wrap64 ((wrap64 ((rd l0 x28_2) + ((wrap64 ((rd l1 x28_2) + 1)) / 2))) - (rd l1 x28_2)))] from rfl) (Reps.none _ _)))); intro v630 w16 ho17 hb hg_ hnew_; clear hg_ hnew_; (first | rw [← Ny629.out] at ho17 | (simp only [Int.reduceToNat] at ho17; rw [← Ny629.out] at ho17)); have HO631 := Aside0.mk (Kd.R_lower (Kd.R_new' ho17 (Kd.R_lt (xR HO_6.out))) (below_size (xB HB.out))); replace HO_6 := Aside0.mk (Kd.R_elder' (xR HO_6.out) (Kd.R_base ho17) hb); replace HB := Aside0.mk (below_step (xB HB.out) hb); clear hb ho17; obtain ⟨Ao19, co19, eo19⟩ := Kd.R_slice HO631.out; subst eo19) | ((with_reducible refine gate_builtin (b := .append) (xs := #[.tmp 41, .tmp 49]) rfl ?_); (try (refine gate_guard (by rfl) ?_; dsimp only)); at_builtin; refine Kd.R_append_rows (Kd.int .i64) (w0 := w) w.heap.size rfl (.tmp 41) (.tmp 49) 24 3 (.int .i64 0) 8 rfl Try.underlying24 info3 rfl (by decide) (by omega) u6 x6_2 y629 _ _ _ (fun k_ => some k_ ≠ (.slice Ao19 y629.length co19 : Value).ownBlock) (fun _ => False) rfl rfl ?aO ?aR (fun _ _ h => h) (fun _ h => h.elim) ?aF ?aB ?aS ?aL ?_; (case aR => exact xC ((Kd.R_reads' HO631.out).2.2)); (case aB => exact (xB HB.out)); (case aF => exact (fun k_ hk => Kd.fresh' (Kd.R_lt (xR HO631.out)) k_ hk)); (case aO => exact (by (with_reducible repeat (first | apply Kd.R_alloc | apply Kd.R_drewN | apply Kd.R_drew)); exact Kd.R_mono HO_6.out (fun _ hk => hk.2))); (case aS => exact (below_size (xB HB.out))); (case aL => have := LMc15.out; omega); intro v633 w18 ho hb hg hat; rw [← Ny632.out] at ho; replace HO631 := Aside0.mk (Kd.R_after (ok := (fun _ => True)) (xR HO631.out) hg hat); replace HB := Aside0.mk (hb); have HO634 := Aside0.mk (ho); clear HO_6; clear ho hb hg hat))
     go_roundg k2
     case measure => have := HJ2.out; have := HK2.out; omega
     case rel => exact ⟨(y632), (wrap64 (x28_2 + 1)), (by first | rfl | (simp; done) | (simp [*]; done)), H', ⟨by have := HJ2.out; have := HK2.out; omega⟩, ⟨by (with_reducible repeat (first | apply Kd.R_alloc | apply Kd.R_drewN | apply Kd.R_drew)); exact Kd.R_mono HO634.out (fun _ hk => trivial)⟩, ⟨xB HB.out⟩⟩
/-! ### spec_JoinBands: function 180 -/
mutual
def spec_JoinBands.j0 : Nat → List Int → List Int → Bool → Option (List Int × Bool)
 | 0, _, _, _ => none
 | k + 1, x0, x1, x24 => if x24 = true then (some (([] : List Int), false)) else (spec_JoinBands.l0 k x1 ([] : List Int) x0 (x0.length : Int) 0)
def spec_JoinBands.l0 : Nat → List Int → List Int → List Int → Int → Int → Option (List Int × Bool)
 | 0, _, _, _, _, _ => none
 | k + 1, x1, x6, x25, x26, x27 => if x27 < x26 then (if 0 ≤ x27 then (if x27 < (x25.length : Int) then (if x27 < (x1.length : Int) then ((spec_wdShift.f k (wrap64 ((rd x1 x27) + 1)) 1 0).bind fun t643 => ((some (([wrap64 ((rd x25 x27) + t643), wrap64 ((wrap64 ((rd x25 x27) + t643)) - (rd x1 x27))] : List Int) : List Int)).bind fun y645 => (if x6.length + y645.length < 17592186044416 then (spec_JoinBands.l0 k x1 (x6 ++ y645) x25 x26 (wrap64 (x27 + 1))) else (none)))) else (none)) else (none)) else (none)) else ((spec_wdIf.f k x6).bind fun bt651 => (some (bt651.1, bt651.2)))
end
def spec_JoinBands.f (k : Nat) (l0 : List Int) (l1 : List Int) : Option (List Int × Bool) := (spec_wdSignal.f k l0).bind fun t639 => (if t639 = true then ((spec_wdSignal.f k l1).bind fun t640 => (if t640 = true then (spec_JoinBands.j0 k l0 l1 ((l0.length : Int) != (l1.length : Int))) else (spec_JoinBands.j0 k l0 l1 true))) else (spec_JoinBands.j0 k l0 l1 true))
theorem spec_JoinBands.mono_l : ∀ k, (∀ y0 y1 y2, LeO (spec_JoinBands.j0 k y0 y1 y2) (spec_JoinBands.j0 (k + 1) y0 y1 y2)) ∧ (∀ y0 y1 y2 y3 y4, LeO (spec_JoinBands.l0 k y0 y1 y2 y3 y4) (spec_JoinBands.l0 (k + 1) y0 y1 y2 y3 y4))
 | 0 => ⟨fun _ _ _ r h => by simp [spec_JoinBands.j0] at h, fun _ _ _ _ _ r h => by simp [spec_JoinBands.l0] at h⟩
 | k + 1 => by
  obtain ⟨ih0, ih1⟩ := spec_JoinBands.mono_l k
  have m0 := @spec_wdIf.mono
  have m1 := @spec_wdShift.mono
  have m2 := @spec_wdSignal.mono
  refine ⟨?_, ?_⟩ <;> intros
  ·unfold spec_JoinBands.j0; exact xM
  ·unfold spec_JoinBands.l0; exact xM
theorem spec_JoinBands.mono : ∀ a0 a1 k, LeO (spec_JoinBands.f k a0 a1) (spec_JoinBands.f (k + 1) a0 a1) := by
 intro a0 a1 k
 obtain ⟨ih0, ih1⟩ := spec_JoinBands.mono_l k
 have m0 := @spec_wdIf.mono
 have m1 := @spec_wdShift.mono
 have m2 := @spec_wdSignal.mono
 unfold spec_JoinBands.f
 exact xM
set_option maxHeartbeats 8000000 in
set_option maxRecDepth 100000 in
theorem spec_JoinBands.calls (k : Nat) (A0 : Option Addr) (c0 : Nat) (l0 : List Int) (A1 : Option Addr) (c1 : Nat) (l1 : List Int) (r1 : List Int) (r2 : Bool) (w : World) (hr0 : Kd.C (Kd.int .i64) w A0 l0.length l0) (hc0 : l0.length ≤ c0) (hr1 : Kd.C (Kd.int .i64) w A1 l1.length l1) (hc1 : l1.length ≤ c1) (h : spec_JoinBands.f k l0 l1 = some (r1, r2)) :
  Calls Try.prog 180 #[.slice A0 l0.length c0, .slice A1 l1.length c1] w fun e w' => ∃ v0_ : Value, e = .returned (.tuple #[v0_, .bool r2]) ∧ Kd.R (Kd.int .i64) 3 w' w.heap.size (fun _ => True) v0_ r1 ∧ Below w.heap.size w w' := by
 have HR0 := Aside0.mk hr0
 have HC0 := Aside0.mk hc0
 clear hr0 hc0
 have HR1 := Aside0.mk hr1
 have HC1 := Aside0.mk hc1
 clear hr1 hc1
 have HB := Aside0.mk (Below.refl w.heap.size w)
 have H : ((spec_wdSignal.f k l0).bind fun t639 => (if t639 = true then ((spec_wdSignal.f k l1).bind fun t640 => (if t640 = true then (spec_JoinBands.j0 k l0 l1 ((l0.length : Int) != (l1.length : Int))) else (spec_JoinBands.j0 k l0 l1 true))) else (spec_JoinBands.j0 k l0 l1 true))) = some (r1, r2) := h
 clear h
 have HC3 := Aside0.mk H
 clear H
 go_enter Try.func180, Try.ntmps180
 go_upto_region 1 with (fail)
 go_cut [24] (fun v24 wc => ∃ (kq : Nat) (x24_2 : Bool), v24 = .bool x24_2 ∧ Aside0 (spec_JoinBands.j0 kq l0 l1 x24_2 = some (r1, r2)) ∧ Aside0 (kq ≤ k) ∧ Aside0 (Below w.heap.size w wc))
 case first => as_aux_lemma =>
  have H := HC3.out
  clear HC3
  obtain ⟨t639, A4, H⟩ := xO H
  (try dsimp only at H)
  by_cases c5 : t639 = true
  rotate_left
  ·replace c5 := Bool.eq_false_iff.mpr c5
   subst c5
   rw [if_neg (show ¬ (false = true) by decide)] at H
   have H' := Aside0.mk H
   clear H
   go_wp2_with (first | (refine xG (some 11) Try.func236 #[.slice A0 l0.length c0] ?_; (with_reducible refine (spec_wdSignal.calls k _ _ l0 false _ ?side1 ?side2 A4.out).mono ?_); (case side1 => exact xC (Kd.C_below HR0.out HB.out)); (case side2 => exact HC0.out); rintro e w' ⟨rfl, ⟨nd, rfl⟩⟩; refine ⟨_, rfl, ?_⟩))
   go_meet
   case rel => exact ⟨_, (true), (by first | rfl | (simp; done) | (simp [*]; done)), H', ⟨by first | omega | exact Nat.le_refl _⟩, ⟨xB HB.out⟩⟩
  subst c5
  rw [if_pos rfl] at H
  obtain ⟨t640, A6, H⟩ := xO H
  (try dsimp only at H)
  by_cases c7 : t640 = true
  ·subst c7
   rw [if_pos rfl] at H
   have H' := Aside0.mk H
   clear H
   go_wp2_with (first | (refine xG (some 11) Try.func236 #[.slice A0 l0.length c0] ?_; (with_reducible refine (spec_wdSignal.calls k _ _ l0 true _ ?side1 ?side2 A4.out).mono ?_); (case side1 => exact xC (Kd.C_below HR0.out HB.out)); (case side2 => exact HC0.out); rintro e w' ⟨rfl, ⟨nd, rfl⟩⟩; refine ⟨_, rfl, ?_⟩) | (go_at_call 236; (with_reducible refine (spec_wdSignal.calls k _ _ l1 true _ ?side1 ?side2 A6.out).mono ?_); (case side1 => repeat (first | exact (Kd.C_below HR1.out (xB HB.out)) | (with_reducible refine Kd.C_alloc ?_ _) | (with_reducible refine Kd.C_drewN ?_ _) | (with_reducible refine Kd.C_drew ?_))); (case side2 => exact HC1.out); rintro e w' ⟨rfl, ⟨nd, rfl⟩⟩))
   go_meet
   case rel => exact ⟨_, (((l0.length : Int) != (l1.length : Int))), (by first | rfl | (simp; done) | (simp [*]; done)), H', ⟨by first | omega | exact Nat.le_refl _⟩, ⟨xB HB.out⟩⟩
  replace c7 := Bool.eq_false_iff.mpr c7
  subst c7
  rw [if_neg (show ¬ (false = true) by decide)] at H
  have H' := Aside0.mk H
  clear H
  go_wp2_with (first | (refine xG (some 11) Try.func236 #[.slice A0 l0.length c0] ?_; (with_reducible refine (spec_wdSignal.calls k _ _ l0 true _ ?side1 ?side2 A4.out).mono ?_); (case side1 => exact xC (Kd.C_below HR0.out HB.out)); (case side2 => exact HC0.out); rintro e w' ⟨rfl, ⟨nd, rfl⟩⟩; refine ⟨_, rfl, ?_⟩) | (go_at_call 236; (with_reducible refine (spec_wdSignal.calls k _ _ l1 false _ ?side1 ?side2 A6.out).mono ?_); (case side1 => repeat (first | exact (Kd.C_below HR1.out (xB HB.out)) | (with_reducible refine Kd.C_alloc ?_ _) | (with_reducible refine Kd.C_drewN ?_ _) | (with_reducible refine Kd.C_drew ?_))); (case side2 => exact HC1.out); rintro e w' ⟨rfl, ⟨nd, rfl⟩⟩))
  go_meet
  case rel => exact ⟨_, (true), (by first | rfl | (simp; done) | (simp [*]; done)), H', ⟨by first | omega | exact Nat.le_refl _⟩, ⟨xB HB.out⟩⟩
 case rest => as_aux_lemma =>
  clear HC3
  try clear c1
  obtain ⟨kq, x24_2, rfl, HA, HJ2, HB⟩ := hcut
  cases kq with
  | zero => exact absurd HA.out (by simp [spec_JoinBands.j0])
  | succ kj2 =>
   have H := HA.out
   clear HA
   simp only [spec_JoinBands.j0] at H
   by_cases c8 : x24_2 = true
   ·subst c8
    rw [if_pos rfl] at H
    simp only [Option.some.injEq, Prod.mk.injEq] at H
    obtain ⟨rfl, rfl⟩ := H
    go_wp2
    go_ret2
    exact ⟨_, by first | rfl | (simp [errW_none, errW_some] <;> rfl) | (simp [*, errW_none, errW_some] <;> rfl), by first | exact Kd.R_nil _ _ _ _ _ | exact Kd.N_nil _ _ _ _ _ | exact Kd.V_nil _ _ _ _ _ | exact Kd.Q_nil _ _ _ _ _ | exact Kd.S_nil _ _ _ _ _, xB HB.out⟩
   replace c8 := Bool.eq_false_iff.mpr c8
   subst c8
   rw [if_neg (show ¬ (false = true) by decide)] at H
   have H' := Aside0.mk H
   clear H
   go_wp2
   go_loopg [6, 27] kj2 (fun kq v6 v27 w' => ∃ (x6_2 : List Int) (x27_2 : Int), v27 = .int .i64 x27_2 ∧ Aside0 (spec_JoinBands.l0 kq l1 x6_2 l0 (l0.length : Int) x27_2 = some (r1, r2)) ∧ Aside0 (kq ≤ kj2) ∧ Aside0 (Kd.R (Kd.int .i64) 3 w' w.heap.size (fun _ => True) v6 x6_2) ∧ Aside0 (Below w.heap.size w w'))
   case atStart => exact ⟨(([] : List Int)), (0), (by first | rfl | (simp; done) | (simp [*]; done)), H', ⟨Nat.le_refl _⟩, ⟨by first | exact Kd.R_nil _ _ _ _ _ | exact Kd.N_nil _ _ _ _ _ | exact Kd.V_nil _ _ _ _ _ | exact Kd.Q_nil _ _ _ _ _ | exact Kd.S_nil _ _ _ _ _⟩, ⟨xB HB.out⟩⟩
   case round =>
    clear H'
    try clear c8
    obtain ⟨x6_2, x27_2, rfl, HA, HK2, HO_6, HB⟩ := hrel
    cases gk with
    | zero => exact absurd HA.out (by simp [spec_JoinBands.l0])
    | succ k2 =>
     have H := HA.out
     clear HA
     simp only [spec_JoinBands.l0] at H
     by_cases c9 : x27_2 < (l0.length : Int)
     rotate_left
     ·rw [if_neg c9] at H
      have c9b0 : decide (x27_2 < (l0.length : Int)) = false := decide_eq_false c9
      clear c9
      replace H := Option.bind_eq_some_iff.mp H
      obtain ⟨⟨t651, t654⟩, A190, H⟩ := H
      (try dsimp only at H)
      have A19 := Aside0.mk A190
      clear A190
      simp only [Option.some.injEq, Prod.mk.injEq] at H
      obtain ⟨rfl, rfl⟩ := H
      obtain ⟨Ao20, co20, eo20⟩ := Kd.R_slice HO_6.out
      subst eo20
      go_wp2_with (first | (refine xG (some 52) Try.func219 #[.slice Ao20 x6_2.length co20] ?_; (with_reducible refine (spec_wdIf.calls k2 (fun k_ => some k_ = (.slice Ao20 x6_2.length co20 : Value).ownBlock) (.slice Ao20 x6_2.length co20) x6_2 t651 t654 w _ ?side1 ?side2 A19.out).mono ?_); (case side1 => repeat (first | (with_reducible first | exact HB.out | apply below_alloc | apply pw_below_drewN | apply below_drew1) | exact HB.out)); (case side2 => exact Kd.R_tight rfl HO_6.out); rintro e w21 ⟨v652, rfl, ho0, hb, hkp⟩; refine ⟨_, rfl, ?_⟩; have HO653 := Aside0.mk (Kd.R_mono (ok' := fun k_ => True) ho0 (fun k_ hk_ => trivial)); replace HB := Aside0.mk (hb); clear HO_6; (try clear hb); (try clear hkp); (try clear ho0)))
      go_ret2
      exact ⟨_, by first | rfl | (simp [errW_none, errW_some] <;> rfl) | (simp [*, errW_none, errW_some] <;> rfl), xR HO653.out, xB HB.out⟩

     rw [if_pos c9] at H
     have c9b0 : decide (x27_2 < (l0.length : Int)) = true := decide_eq_true c9
     clear c9
     by_cases c10 : 0 ≤ x27_2
     rotate_left
     ·rw [if_neg c10] at H
      exact absurd H (by simp)
     rw [if_pos c10] at H
     have c10b0 : decide (0 ≤ x27_2) = true := decide_eq_true c10
     clear c10
     by_cases c11 : x27_2 < (l0.length : Int)
     rotate_left
     ·rw [if_neg c11] at H
      exact absurd H (by simp)
     rw [if_pos c11] at H
     have c11b0 : decide (x27_2 < (l0.length : Int)) = true := decide_eq_true c11
     clear c11
     by_cases c12 : x27_2 < (l1.length : Int)
     rotate_left
     ·rw [if_neg c12] at H
      exact absurd H (by simp)
     rw [if_pos c12] at H
     have c12b0 : decide (x27_2 < (l1.length : Int)) = true := decide_eq_true c12
     clear c12
     obtain ⟨t643, A13, H⟩ := xO H
     (try dsimp only at H)
     obtain ⟨y645, hy645⟩ : ∃ y_ : List Int, y_ = (([wrap64 ((rd l0 x27_2) + t643), wrap64 ((wrap64 ((rd l0 x27_2) + t643)) - (rd l1 x27_2))] : List Int)) := ⟨_, rfl⟩
     replace H : (if x6_2.length + y645.length < 17592186044416 then (spec_JoinBands.l0 k2 l1 (x6_2 ++ y645) l0 (l0.length : Int) (wrap64 (x27_2 + 1))) else (none)) = some (r1, r2) := by first | (rw [hy645]; with_reducible exact H) | (have H2_ := (Option.bind_some _ _).symm.trans H; rw [hy645]; with_reducible exact H2_) | (have H2_ := (Option.bind_some _ _).symm.trans H; with_reducible exact H2_) | with_reducible exact H | (rw [hy645]; exact H) | exact H
     have Ny645 := Aside0.mk hy645
     clear hy645
     by_cases c14 : x6_2.length + y645.length < 17592186044416
     rotate_left
     ·rw [if_neg c14] at H
      exact absurd H (by simp)
     rw [if_pos c14] at H
     have LMc14 := Aside0.mk c14
     clear c14
     obtain ⟨y648, hy648⟩ : ∃ y_ : List Int, y_ = (x6_2 ++ y645) := ⟨_, rfl⟩
     replace H : (spec_JoinBands.l0 k2 l1 y648 l0 (l0.length : Int) (wrap64 (x27_2 + 1))) = some (r1, r2) := by first | (rw [hy648]; with_reducible exact H) | (have H2_ := (Option.bind_some _ _).symm.trans H; rw [hy648]; with_reducible exact H2_) | (have H2_ := (Option.bind_some _ _).symm.trans H; with_reducible exact H2_) | with_reducible exact H | (rw [hy648]; exact H) | exact H
     have Ny648 := Aside0.mk hy648
     clear hy648
     have H' := Aside0.mk H
     clear H
     have p641 : 0 ≤ (x27_2 : Int) := of_decide_eq_true (by first | (with_reducible assumption) | assumption)
     have q641 : x27_2 < (l0.length : Int) := of_decide_eq_true (by first | (with_reducible assumption) | assumption)
     obtain ⟨ad641, e641, hx641_0⟩ := Kd.at_int HR0.out x27_2 p641 q641
     cases e641
     replace hx641_0 := (HB.out.cell (World.block_lt_of_cell? w _ hx641_0)).trans hx641_0
     replace p641 := eq_true p641
     replace q641 := eq_true q641
     have p642 : 0 ≤ (x27_2 : Int) := of_decide_eq_true (by first | (with_reducible assumption) | assumption)
     have q642 : x27_2 < (l1.length : Int) := of_decide_eq_true (by first | (with_reducible assumption) | assumption)
     obtain ⟨ad642, e642, hx642_0⟩ := Kd.at_int HR1.out x27_2 p642 q642
     cases e642
     replace hx642_0 := (HB.out.cell (World.block_lt_of_cell? w _ hx642_0)).trans hx642_0
     replace p642 := eq_true p642
     replace q642 := eq_true q642
     go_wp2_with (first | (refine xG (some 38) Try.func257 #[.int .i64 (wrap64 ((rd l1 x27_2) + 1)), .int .i64 1, .int .i64 0] ?_; (with_reducible refine (spec_wdShift.calls k2 (wrap64 ((rd l1 x27_2) + 1)) 1 0 t643 _ A13.out).mono ?_); rintro e w' ⟨rfl, ⟨nd, rfl⟩⟩; refine ⟨_, rfl, ?_⟩; have p644 : 0 ≤ (x27_2 : Int) := of_decide_eq_true (by first | (with_reducible assumption) | assumption); have q644 : x27_2 < (l1.length : Int) := of_decide_eq_true (by first | (with_reducible assumption) | assumption); obtain ⟨ad644, e644, hx644_0⟩ := Kd.at_int HR1.out x27_2 p644 q644; obtain rfl : ad642 = ad644 := (by injection e644); replace hx644_0 := (HB.out.cell (World.block_lt_of_cell? w _ hx644_0)).trans hx644_0; replace p644 := eq_true p644; replace q644 := eq_true q644) | ((with_reducible refine gate_dst (N := 48) rfl ?_); (try (refine gate_guard (by rfl) ?_; dsimp only)); refine Kd.R_lit (Kd.int .i64) _ 3 ?hg (N := 48) ?hd (xs := ([wrap64 ((rd l0 x27_2) + t643), wrap64 ((wrap64 ((rd l0 x27_2) + t643)) - (rd l1 x27_2))] : List Int)) (inner := [.int .i64 (wrap64 ((rd l0 x27_2) + t643)), .int .i64 (wrap64 ((wrap64 ((rd l0 x27_2) + t643)) - (rd l1 x27_2)))]) (ok := fun _ => True) (okp := fun _ => True) ?hr ?hp (fun _ hk => hk) trivial (Below.refl _ _) (Nat.le_refl _) (by simp) ?_; (case hd => rfl); (case hg => rfl); (case hr => first | (go_simp; done) | (go_simp; rfl)); (case hp => exact (Reps.one (show Kd.M (Kd.int .i64) _ _ _ (wrap64 ((rd l0 x27_2) + t643)) [.int .i64 (wrap64 ((rd l0 x27_2) + t643))] from rfl) (Reps.one (show Kd.M (Kd.int .i64) _ _ _ (wrap64 ((wrap64 ((rd l0 x27_2) + t643)) - (rd l1 x27_2))) [.int .i64 (wrap64 ((wrap64 ((rd l0 x27_2) + t643)) - (rd l1 x27_2)))] from rfl) (Reps.none _ _)))); intro v646 w15 ho16 hb hg_ hnew_; clear hg_ hnew_; (first | rw [← Ny645.out] at ho16 | (simp only [Int.reduceToNat] at ho16; rw [← Ny645.out] at ho16)); have HO647 := Aside0.mk (Kd.R_lower (Kd.R_new' ho16 (Kd.R_lt (xR HO_6.out))) (below_size (xB HB.out))); replace HO_6 := Aside0.mk (Kd.R_elder' (xR HO_6.out) (Kd.R_base ho16) hb); replace HB := Aside0.mk (below_step (xB HB.out) hb); clear hb ho16; obtain ⟨Ao18, co18, eo18⟩ := Kd.R_slice HO647.out; subst eo18) | ((with_reducible refine gate_builtin (b := .append) (xs := #[.tmp 40, .tmp 48]) rfl ?_); (try (refine gate_guard (by rfl) ?_; dsimp only)); at_builtin; refine Kd.R_append_rows (Kd.int .i64) (w0 := w) w.heap.size rfl (.tmp 40) (.tmp 48) 24 3 (.int .i64 0) 8 rfl Try.underlying24 info3 rfl (by decide) (by omega) u6 x6_2 y645 _ _ _ (fun k_ => some k_ ≠ (.slice Ao18 y645.length co18 : Value).ownBlock) (fun _ => False) rfl rfl ?aO ?aR (fun _ _ h => h) (fun _ h => h.elim) ?aF ?aB ?aS ?aL ?_; (case aR => exact xC ((Kd.R_reads' HO647.out).2.2)); (case aB => exact (xB HB.out)); (case aF => exact (fun k_ hk => Kd.fresh' (Kd.R_lt (xR HO647.out)) k_ hk)); (case aO => exact (by (with_reducible repeat (first | apply Kd.R_alloc | apply Kd.R_drewN | apply Kd.R_drew)); exact Kd.R_mono HO_6.out (fun _ hk => hk.2))); (case aS => exact (below_size (xB HB.out))); (case aL => have := LMc14.out; omega); intro v649 w17 ho hb hg hat; rw [← Ny648.out] at ho; replace HO647 := Aside0.mk (Kd.R_after (ok := (fun _ => True)) (xR HO647.out) hg hat); replace HB := Aside0.mk (hb); have HO650 := Aside0.mk (ho); clear HO_6; clear ho hb hg hat))
     go_roundg k2
     case measure => have := HJ2.out; have := HK2.out; omega
     case rel => exact ⟨(y648), (wrap64 (x27_2 + 1)), (by first | rfl | (simp; done) | (simp [*]; done)), H', ⟨by have := HJ2.out; have := HK2.out; omega⟩, ⟨by (with_reducible repeat (first | apply Kd.R_alloc | apply Kd.R_drewN | apply Kd.R_drew)); exact Kd.R_mono HO650.out (fun _ hk => trivial)⟩, ⟨xB HB.out⟩⟩
/-! ### spec_DrawProductsDirect: function 181 -/
def spec_DrawProductsDirect.f (k : Nat) (l0 : List Int) : Option (List Int × Int × Int × Int) := (spec_l1Cur_ratio.f l0 0 0).bind fun bt656 => ((spec_l1Cur_weights.f k l0 bt656.2.2.1 bt656.2.2.2).bind fun bt660 => ((spec_l1Cur_pick.f l0 bt660.2.1 bt660.2.2 20).bind fun bt665 => ((spec_l1Cur_pick.f l0 bt665.2.1 bt665.2.2 9).bind fun bt668 => (some (bt660.1, wrap64 (bt665.1 - (wrap64 (Int.tdiv bt668.1 8))), bt656.1, bt656.2.1)))))
theorem spec_DrawProductsDirect.mono : ∀ a0 k, LeO (spec_DrawProductsDirect.f k a0) (spec_DrawProductsDirect.f (k + 1) a0) := by
 intro a0 k
 have m0 := @spec_l1Cur_weights.mono
 unfold spec_DrawProductsDirect.f
 exact xM
set_option maxHeartbeats 8000000 in
set_option maxRecDepth 100000 in
theorem spec_DrawProductsDirect.calls (k : Nat) (A0 : Option Addr) (c0 : Nat) (l0 : List Int) (r1 : List Int) (r2 : Int) (r3 : Int) (r4 : Int) (w : World) (hr0 : Kd.C (Kd.int .u8) w A0 l0.length l0) (hc0 : l0.length ≤ c0) (h : spec_DrawProductsDirect.f k l0 = some (r1, r2, r3, r4)) :
  Calls Try.prog 181 #[.slice A0 l0.length c0] w fun e w' => ∃ v0_ : Value, e = .returned (.tuple #[v0_, .int .i64 r2, .int .i64 r3, .int .i64 r4]) ∧ Kd.R (Kd.int .i64) 3 w' w.heap.size (fun _ => True) v0_ r1 ∧ Below w.heap.size w w' := by
 have hu129 := Try.underlying129
 have HR0 := Aside0.mk hr0
 have HC0 := Aside0.mk hc0
 clear hr0 hc0
 have HB := Aside0.mk (Below.refl w.heap.size w)
 have H : ((spec_l1Cur_ratio.f l0 0 0).bind fun bt656 => ((spec_l1Cur_weights.f k l0 bt656.2.2.1 bt656.2.2.2).bind fun bt660 => ((spec_l1Cur_pick.f l0 bt660.2.1 bt660.2.2 20).bind fun bt665 => ((spec_l1Cur_pick.f l0 bt665.2.1 bt665.2.2 9).bind fun bt668 => (some (bt660.1, wrap64 (bt665.1 - (wrap64 (Int.tdiv bt668.1 8))), bt656.1, bt656.2.1)))))) = some (r1, r2, r3, r4) := h
 clear h
 replace H := Option.bind_eq_some_iff.mp H
 obtain ⟨⟨t656, t657, t658, t659⟩, A20, H⟩ := H
 (try dsimp only at H)
 have A2 := Aside0.mk A20
 clear A20
 replace H := Option.bind_eq_some_iff.mp H
 obtain ⟨⟨t660, t663, t664⟩, A30, H⟩ := H
 (try dsimp only at H)
 have A3 := Aside0.mk A30
 clear A30
 replace H := Option.bind_eq_some_iff.mp H
 obtain ⟨⟨t665, t666, t667⟩, A40, H⟩ := H
 (try dsimp only at H)
 have A4 := Aside0.mk A40
 clear A40
 replace H := Option.bind_eq_some_iff.mp H
 obtain ⟨⟨t668, t669, t670⟩, A50, H⟩ := H
 (try dsimp only at H)
 have A5 := Aside0.mk A50
 clear A50
 simp only [Option.some.injEq, Prod.mk.injEq] at H
 obtain ⟨rfl, rfl, rfl, rfl⟩ := H
 go_enter Try.func181, Try.ntmps181
 go_wp2_with (first | (refine xV 11 #[.slice A0 l0.length c0, .int .i64 0, .int .u64 0] 129 ?_; intro gb655 hg w6 hbox hb; have HI655 := Aside0.mk ((show IsS129 w _ gb655 l0 0 0 from ⟨_, _, hbox, (by rw [hg]; exact (below_size (xB HB.out)) : w.heap.size ≤ gb655), HR0.out⟩)); replace HB := Aside0.mk (below_step (xB HB.out) hb); clear hb hbox hg) | (refine xG (some 14) Try.func213 #[.pointer (some ⟨gb655, 0, none⟩)] ?_; (with_reducible refine (spec_l1Cur_ratio.calls gb655 l0 0 0 t656 t657 t658 t659 w _ ?side1 ?side2 A2.out).mono ?_); (case side1 => repeat (first | (with_reducible first | exact HI655.out | apply IsS129.alloc | apply IsS129.drewN | apply IsS129.drew | apply IsS129.set_1 | apply IsS129.set_2) | exact HI655.out)); (case side2 => repeat (first | (with_reducible first | exact HB.out | apply below_alloc | apply pw_below_drewN | apply below_drew1 | refine below_set ?_ (IsS129.ge HI655.out)) | exact HB.out)); rintro e w7 ⟨rfl, hi, hb, hk⟩; refine ⟨_, rfl, ?_⟩; replace HB := Aside0.mk (hb); replace HI655 := Aside0.mk (hi); (try clear hb); (try clear hb2); (try clear hk); (try clear hi)) | (refine xG (some 18) Try.func264 #[.pointer (some ⟨gb655, 0, none⟩)] ?_; (with_reducible refine (spec_l1Cur_weights.calls k gb655 l0 t658 t659 t660 t663 t664 w _ ?side1 ?side2 A3.out).mono ?_); (case side1 => repeat (first | (with_reducible first | exact HI655.out | apply IsS129.alloc | apply IsS129.drewN | apply IsS129.drew | apply IsS129.set_1 | apply IsS129.set_2) | exact HI655.out)); (case side2 => repeat (first | (with_reducible first | exact HB.out | apply below_alloc | apply pw_below_drewN | apply below_drew1 | refine below_set ?_ (IsS129.ge HI655.out)) | exact HB.out)); rintro e w8 ⟨v661, rfl, ho0, hi, hb, hk⟩; refine ⟨_, rfl, ?_⟩; have HO662 := Aside0.mk (Kd.R_lower ho0 (below_size (by repeat (first | (with_reducible first | exact HB.out | apply below_alloc | apply pw_below_drewN | apply below_drew1 | refine below_set ?_ (IsS129.ge HI655.out)) | exact HB.out)))); replace HB := Aside0.mk (hb); replace HI655 := Aside0.mk (hi); (try clear hb); (try clear hb2); (try clear hk); (try clear hi); (try clear ho0)) | (refine xG (some 20) Try.func229 #[.pointer (some ⟨gb655, 0, none⟩), .int .i64 20] ?_; (with_reducible refine (spec_l1Cur_pick.calls gb655 l0 t663 t664 20 t665 t666 t667 w _ ?side1 ?side2 A4.out).mono ?_); (case side1 => repeat (first | (with_reducible first | exact HI655.out | apply IsS129.alloc | apply IsS129.drewN | apply IsS129.drew | apply IsS129.set_1 | apply IsS129.set_2) | exact HI655.out)); (case side2 => repeat (first | (with_reducible first | exact HB.out | apply below_alloc | apply pw_below_drewN | apply below_drew1 | refine below_set ?_ (IsS129.ge HI655.out)) | exact HB.out)); rintro e w9 ⟨rfl, hi, hb, hk⟩; refine ⟨_, rfl, ?_⟩; replace HO662 := Aside0.mk (Kd.R_mono (Kd.R_keep (IsS129.apart (show IsS129 w _ gb655 l0 t663 t664 from by repeat (first | (with_reducible first | exact HI655.out | apply IsS129.alloc | apply IsS129.drewN | apply IsS129.drew | apply IsS129.set_1 | apply IsS129.set_2) | exact HI655.out)) (xR HO662.out) (by decide)) hk (fun _ h => h.2)) (fun _ h => h.1)); replace HB := Aside0.mk (hb); replace HI655 := Aside0.mk (hi); (try clear hb); (try clear hb2); (try clear hk); (try clear hi)) | (refine xG (some 22) Try.func229 #[.pointer (some ⟨gb655, 0, none⟩), .int .i64 9] ?_; (with_reducible refine (spec_l1Cur_pick.calls gb655 l0 t666 t667 9 t668 t669 t670 w _ ?side1 ?side2 A5.out).mono ?_); (case side1 => repeat (first | (with_reducible first | exact HI655.out | apply IsS129.alloc | apply IsS129.drewN | apply IsS129.drew | apply IsS129.set_1 | apply IsS129.set_2) | exact HI655.out)); (case side2 => repeat (first | (with_reducible first | exact HB.out | apply below_alloc | apply pw_below_drewN | apply below_drew1 | refine below_set ?_ (IsS129.ge HI655.out)) | exact HB.out)); rintro e w10 ⟨rfl, hi, hb, hk⟩; refine ⟨_, rfl, ?_⟩; replace HO662 := Aside0.mk (Kd.R_mono (Kd.R_keep (IsS129.apart (show IsS129 w _ gb655 l0 t666 t667 from by repeat (first | (with_reducible first | exact HI655.out | apply IsS129.alloc | apply IsS129.drewN | apply IsS129.drew | apply IsS129.set_1 | apply IsS129.set_2) | exact HI655.out)) (xR HO662.out) (by decide)) hk (fun _ h => h.2)) (fun _ h => h.1)); replace HB := Aside0.mk (hb); replace HI655 := Aside0.mk (hi); (try clear hb); (try clear hb2); (try clear hk); (try clear hi)))
 refine bodyPost_ret (results_list (rs := [.tmp 2, .tmp 3, .tmp 4, .tmp 5]) rfl (by simp) (.tmp (.tmp (.tmp (.tmp .nil))))) rfl ?_
 exact ⟨_, by first | rfl | (simp [errW_none, errW_some] <;> rfl) | (simp [*, errW_none, errW_some] <;> rfl), xR HO662.out, by repeat (first | (with_reducible first | exact HB.out | apply below_alloc | apply pw_below_drewN | apply below_drew1 | refine below_set ?_ (IsS129.ge HI655.out)) | exact HB.out)⟩

/-! ### spec_l1Least: function 270 -/
def spec_l1Least.f (a0 : Int) (a1 : Int) : Option (Int) := if a0 < a1 then (some a0) else (some a1)
set_option maxHeartbeats 8000000 in
set_option maxRecDepth 100000 in
theorem spec_l1Least.calls (a0 : Int) (a1 : Int) (r : Int) (w : World) (h : spec_l1Least.f a0 a1 = some r) :
  Calls Try.prog 270 #[.int .i64 a0, .int .i64 a1] w fun e w' => e = .returned (.int .i64 r) ∧ Drawn0 w w' := by
 have H : (if a0 < a1 then (some a0) else (some a1)) = some r := h
 clear h
 by_cases c3 : a0 < a1
 ·rw [if_pos c3] at H
  have c3b0 : decide (a0 < a1) = true := decide_eq_true c3
  clear c3
  obtain rfl := Option.some.inj H
  go_enter Try.func270, Try.ntmps270
  go_wp2
  go_ret
  exact ⟨by first | rfl | (simp; done) | (simp [*]; done), by repeat (first | exact Drawn0.refl _ | apply Drawn0.step)⟩
 rw [if_neg c3] at H
 have c3b0 : decide (a0 < a1) = false := decide_eq_false c3
 clear c3
 obtain rfl := Option.some.inj H
 go_enter Try.func270, Try.ntmps270
 go_wp2
 go_ret
 exact ⟨by first | rfl | (simp; done) | (simp [*]; done), by repeat (first | exact Drawn0.refl _ | apply Drawn0.step)⟩

/-! ### spec_rsCount: function 359 -/
def spec_rsCount.f (k : Nat) (l0 : List Int) (a1 : Int) (a2 : Int) (a3 : Int) : Option (Bool) := (spec_weGood.f k l0).bind fun t671 => (if t671 = true then ((spec_l1In.f a1 0 64).bind fun t672 => (if t672 = true then ((spec_rsRatio.f a2 a3).bind fun t673 => (if t673 = true then (some (decide ((wrap64 (a1 * a2)) ≤ 64))) else (some false))) else (some false))) else (some false))
theorem spec_rsCount.mono : ∀ a0 a1 a2 a3 k, LeO (spec_rsCount.f k a0 a1 a2 a3) (spec_rsCount.f (k + 1) a0 a1 a2 a3) := by
 intro a0 a1 a2 a3 k
 have m0 := @spec_weGood.mono
 unfold spec_rsCount.f
 exact xM
set_option maxHeartbeats 8000000 in
set_option maxRecDepth 100000 in
theorem spec_rsCount.calls (k : Nat) (A0 : Option Addr) (c0 : Nat) (l0 : List Int) (a1 : Int) (a2 : Int) (a3 : Int) (r : Bool) (w : World) (hr0 : Kd.C (Kd.int .i64) w A0 l0.length l0) (hc0 : l0.length ≤ c0) (h : spec_rsCount.f k l0 a1 a2 a3 = some r) :
  Calls Try.prog 359 #[.slice A0 l0.length c0, .int .i64 a1, .int .i64 a2, .int .i64 a3] w fun e w' => e = .returned (.bool r) ∧ Drawn0 w w' := by
 have HR0 := Aside0.mk hr0
 have HC0 := Aside0.mk hc0
 clear hr0 hc0
 have H : ((spec_weGood.f k l0).bind fun t671 => (if t671 = true then ((spec_l1In.f a1 0 64).bind fun t672 => (if t672 = true then ((spec_rsRatio.f a2 a3).bind fun t673 => (if t673 = true then (some (decide ((wrap64 (a1 * a2)) ≤ 64))) else (some false))) else (some false))) else (some false))) = some r := h
 clear h
 obtain ⟨t671, A5, H⟩ := xO H
 (try dsimp only at H)
 by_cases c6 : t671 = true
 rotate_left
 ·replace c6 := Bool.eq_false_iff.mpr c6
  subst c6
  rw [if_neg (show ¬ (false = true) by decide)] at H
  obtain rfl := Option.some.inj H
  go_enter Try.func359, Try.ntmps359
  go_wp2_with (first | (refine xG (some 10) Try.func266 #[.slice A0 l0.length c0] ?_; (with_reducible refine (spec_weGood.calls k _ _ l0 false _ ?side1 ?side2 A5.out).mono ?_); (case side1 => exact xC HR0.out); (case side2 => exact HC0.out); rintro e w' ⟨rfl, ⟨nd, rfl⟩⟩; refine ⟨_, rfl, ?_⟩))
  go_ret
  exact ⟨by first | rfl | (simp; done) | (simp [*]; done), by repeat (first | exact Drawn0.refl _ | apply Drawn0.step)⟩

 subst c6
 rw [if_pos rfl] at H
 obtain ⟨t672, A7, H⟩ := xO H
 (try dsimp only at H)
 by_cases c8 : t672 = true
 rotate_left
 ·replace c8 := Bool.eq_false_iff.mpr c8
  subst c8
  rw [if_neg (show ¬ (false = true) by decide)] at H
  obtain rfl := Option.some.inj H
  go_enter Try.func359, Try.ntmps359
  go_wp2_with (first | (refine xG (some 10) Try.func266 #[.slice A0 l0.length c0] ?_; (with_reducible refine (spec_weGood.calls k _ _ l0 true _ ?side1 ?side2 A5.out).mono ?_); (case side1 => exact xC HR0.out); (case side2 => exact HC0.out); rintro e w' ⟨rfl, ⟨nd, rfl⟩⟩; refine ⟨_, rfl, ?_⟩) | (go_at_call 230; (with_reducible refine (spec_l1In.calls a1 0 64 false _ A7.out).mono ?_); rintro e w' ⟨rfl, ⟨nd, rfl⟩⟩))
  go_ret
  exact ⟨by first | rfl | (simp; done) | (simp [*]; done), by repeat (first | exact Drawn0.refl _ | apply Drawn0.step)⟩
 subst c8
 rw [if_pos rfl] at H
 obtain ⟨t673, A9, H⟩ := xO H
 (try dsimp only at H)
 by_cases c10 : t673 = true
 ·subst c10
  rw [if_pos rfl] at H
  obtain rfl := Option.some.inj H
  go_enter Try.func359, Try.ntmps359
  go_wp2_with (first | (refine xG (some 10) Try.func266 #[.slice A0 l0.length c0] ?_; (with_reducible refine (spec_weGood.calls k _ _ l0 true _ ?side1 ?side2 A5.out).mono ?_); (case side1 => exact xC HR0.out); (case side2 => exact HC0.out); rintro e w' ⟨rfl, ⟨nd, rfl⟩⟩; refine ⟨_, rfl, ?_⟩) | (go_at_call 230; (with_reducible refine (spec_l1In.calls a1 0 64 true _ A7.out).mono ?_); rintro e w' ⟨rfl, ⟨nd, rfl⟩⟩) | (go_at_call 231; (with_reducible refine (spec_rsRatio.calls a2 a3 true _ A9.out).mono ?_); rintro e w' ⟨rfl, ⟨nd, rfl⟩⟩))
  go_ret
  exact ⟨by first | rfl | (simp; done) | (simp [*]; done), by repeat (first | exact Drawn0.refl _ | apply Drawn0.step)⟩
 replace c10 := Bool.eq_false_iff.mpr c10
 subst c10
 rw [if_neg (show ¬ (false = true) by decide)] at H
 obtain rfl := Option.some.inj H
 go_enter Try.func359, Try.ntmps359
 go_wp2_with (first | (refine xG (some 10) Try.func266 #[.slice A0 l0.length c0] ?_; (with_reducible refine (spec_weGood.calls k _ _ l0 true _ ?side1 ?side2 A5.out).mono ?_); (case side1 => exact xC HR0.out); (case side2 => exact HC0.out); rintro e w' ⟨rfl, ⟨nd, rfl⟩⟩; refine ⟨_, rfl, ?_⟩) | (go_at_call 230; (with_reducible refine (spec_l1In.calls a1 0 64 true _ A7.out).mono ?_); rintro e w' ⟨rfl, ⟨nd, rfl⟩⟩) | (go_at_call 231; (with_reducible refine (spec_rsRatio.calls a2 a3 false _ A9.out).mono ?_); rintro e w' ⟨rfl, ⟨nd, rfl⟩⟩))
 go_ret
 exact ⟨by first | rfl | (simp; done) | (simp [*]; done), by repeat (first | exact Drawn0.refl _ | apply Drawn0.step)⟩
end Go.Proofs.Ytjplcongellcmaa.PFnPhasesWork
