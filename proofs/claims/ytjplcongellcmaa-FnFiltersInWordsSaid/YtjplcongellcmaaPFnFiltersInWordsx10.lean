/- What each Go function that the statement FnFiltersInWords reaches answers, proved call by call. No condition beyond those that the theorems print. (Written by wip/tools/xprint.py of this repo, over the kit's print.) -/
import Derived.Test.YtjplcongellcmaaPFnFiltersInWordsx0
import Derived.Test.YtjplcongellcmaaPFnFiltersInWordsx4
import Derived.Test.YtjplcongellcmaaPFnFiltersInWordsx5
import Derived.Test.YtjplcongellcmaaPFnFiltersInWordsx9
namespace Go.Proofs.Ytjplcongellcmaa.PFnFiltersInWords
open Go.RowKit Go.Proofs.YtjplcongellcmaaW.PrintWords Go.Proofs.YtjplcongellcmaaW.PrintLast Go.Proofs.YtjplcongellcmaaW.PrintMore
attribute [local go_sem] max2_int min2_int max_two min_two max_three min_three max_four min_four   -- for this text's walks alone
set_option linter.unusedVariables false
set_option linter.unusedSimpArgs false
def x10a0 : Array Bool := #[false, false, false, false, false, false, false, false, false, false]
def x10a1 : Array Bool := #[true, false, false, false, false, false, false, false, false, false]
def x10a2 : Array Bool := #[true, true, false, false, false, false, false, false, false, false]
def x10a3 : Array Bool := #[true, true, false, true, false, false, false, false, false, false]
def x10a4 : Array Bool := #[true, true, false, true, true, false, false, false, false, false]
def x10a5 : Array Bool := #[true, true, false, true, true, true, false, false, false, false]
def x10a6 : Array Bool := #[true, true, true, true, true, true, false, false, false, false]
def x10a7 : Array Bool := #[true, true, true, true, true, true, true, false, false, false]
def x10a8 : Array Bool := #[true, true, true, true, true, true, true, true, false, false]
def x10a9 : Array Bool := #[true, true, true, true, true, true, true, true, true, false]
def x10a10 : Array Bool := #[true, true, true, true, true, true, true, true, true, true]

theorem xPutn {α : Type} {enc : α → Value} {h1 : ∀ x, (enc x).oneCell' = true} {e base g n cap : Nat} {ok : Nat → Prop} {W : World} {xs : List α} (h : (Kd.scalar enc h1).R e W base ok (.slice (some ⟨g, 0, none⟩) n cap) xs) (i : Int) (x : α) : (Kd.scalar enc h1).R e (W.setCell ⟨g, i.toNat, none⟩ (enc x)) base ok (.slice (some ⟨g, 0, none⟩) n cap) (xs.set i.toNat x) := by
 obtain ⟨rfl, _⟩ := Kd.R_reads' h
 exact (Kd.R_put h i x).1
/-! ### impl_FilterAtEnd: function 57 -/
def impl_FilterAtEnd.l0 : Nat → Int → Int → List Int → Int → Int → Int → Bool → Option (List Int × Bool)
 | 0, _, _, _, _, _, _, _ => none
 | k + 1, x3, x4, x12, x29, x30, x372000, x372001 => if x30 < x29 then (if 0 ≤ x30 then (if x30 < (x12.length : Int) then ((impl_shifted.f k (rd x12 x30) x3 x4).bind fun t380 => ((impl_Word_fit.f x372000 x372001 t380).bind fun t381 => (impl_FilterAtEnd.l0 k x3 x4 (x12.set (x30 : Int).toNat t381) x29 (wrap64 (x30 + 1)) x372000 x372001))) else (none)) else (none)) else ((impl_told.f k x12).bind fun bt383 => (some (bt383.1, bt383.2)))
def impl_FilterAtEnd.f (k : Nat) (a0_0 : Int) (a0_1 : Bool) (l1 : List Int) (l2 : List Int) (a3 : Int) (a4 : Int) : Option (List Int × Bool) := (impl_inWord.f k a0_0 a0_1 l1 l2 a3 a4).bind fun t372 => (if t372 = true then ((impl_answer.f k l1 l2).bind fun t373 => (if 0 ≤ (l2.length : Int) then (if (l2.length : Int) ≤ (t373.length : Int) then ((some (t373.take ((l2.length : Int) : Int).toNat : List Int)).bind fun y376 => (impl_FilterAtEnd.l0 k a3 a4 y376 (y376.length : Int) 0 a0_0 a0_1)) else (none)) else (none))) else (some (([] : List Int), false)))
theorem impl_FilterAtEnd.mono_l : ∀ k, (∀ y0 y1 y2 y3 y4 y5 y6, LeO (impl_FilterAtEnd.l0 k y0 y1 y2 y3 y4 y5 y6) (impl_FilterAtEnd.l0 (k + 1) y0 y1 y2 y3 y4 y5 y6))
 | 0 => fun _ _ _ _ _ _ _ r h => by simp [impl_FilterAtEnd.l0] at h
 | k + 1 => by
  have ih0 := impl_FilterAtEnd.mono_l k
  have m0 := @impl_answer.mono
  have m1 := @impl_inWord.mono
  have m2 := @impl_shifted.mono
  have m3 := @impl_told.mono
  intros
  unfold impl_FilterAtEnd.l0
  exact xM
theorem impl_FilterAtEnd.mono : ∀ a0 a1 a2 a3 a4 a5 k, LeO (impl_FilterAtEnd.f k a0 a1 a2 a3 a4 a5) (impl_FilterAtEnd.f (k + 1) a0 a1 a2 a3 a4 a5) := by
 intro a0 a1 a2 a3 a4 a5 k
 have ih0 := impl_FilterAtEnd.mono_l k
 have m0 := @impl_answer.mono
 have m1 := @impl_inWord.mono
 have m2 := @impl_shifted.mono
 have m3 := @impl_told.mono
 unfold impl_FilterAtEnd.f
 exact xM
def impl_FilterAtEnd.T7 : Bool × List (List Nat × List Nat) := (true, [([], []), ([], []), ([], []), ([], []), ([], []), ([], []), ([3, 4, 5], [3, 4, 5]), ([2, 6, 6], [2, 6]), ([0, 1, 0, 1, 2, 3, 4, 5, 6, 7], [0, 1]), ([8, 7, 7, 0, 1, 2, 3, 4, 5, 6, 7], [7, 8])])
def impl_FilterAtEnd.B7 : List Nat := [0, 0, 0, 0, 0, 0, 56, 124, 255, 511]
theorem impl_FilterAtEnd.tab7 : rtab .any (opsOf Try.f57 7) = impl_FilterAtEnd.T7 := by kernel_rfl
theorem impl_FilterAtEnd.bits7 : waitsOk impl_FilterAtEnd.T7.2 impl_FilterAtEnd.B7 = true := by kernel_rfl
set_option maxHeartbeats 8000000 in
set_option maxRecDepth 100000 in
theorem impl_FilterAtEnd.calls (k : Nat) (a0_0 : Int) (a0_1 : Bool) (A1 : Option Addr) (c1 : Nat) (l1 : List Int) (A2 : Option Addr) (c2 : Nat) (l2 : List Int) (a3 : Int) (a4 : Int) (r1 : List Int) (r2 : Bool) (w : World) (hr1 : Kd.C (Kd.int .i64) w A1 l1.length l1) (hc1 : l1.length ≤ c1) (hr2 : Kd.C (Kd.int .i64) w A2 l2.length l2) (hc2 : l2.length ≤ c2) (h : impl_FilterAtEnd.f k a0_0 a0_1 l1 l2 a3 a4 = some (r1, r2)) :
  Calls Try.prog 57 #[.agg #[.int .i64 a0_0, .bool a0_1], .slice A1 l1.length c1, .slice A2 l2.length c2, .int .i64 a3, .int .i64 a4] w fun e w' => ∃ v0_ : Value, e = .returned (.tuple #[v0_, .bool r2]) ∧ Kd.R (Kd.int .i64) 3 w' w.heap.size (fun _ => True) v0_ r1 ∧ Below w.heap.size w w' := by
 have hu46 := Try.underlying46
 have HR1 := Aside0.mk hr1
 have HC1 := Aside0.mk hc1
 clear hr1 hc1
 have HR2 := Aside0.mk hr2
 have HC2 := Aside0.mk hc2
 clear hr2 hc2
 have HB := Aside0.mk (Below.refl w.heap.size w)
 have H : ((impl_inWord.f k a0_0 a0_1 l1 l2 a3 a4).bind fun t372 => (if t372 = true then ((impl_answer.f k l1 l2).bind fun t373 => (if 0 ≤ (l2.length : Int) then (if (l2.length : Int) ≤ (t373.length : Int) then ((some (t373.take ((l2.length : Int) : Int).toNat : List Int)).bind fun y376 => (impl_FilterAtEnd.l0 k a3 a4 y376 (y376.length : Int) 0 a0_0 a0_1)) else (none)) else (none))) else (some (([] : List Int), false)))) = some (r1, r2) := h
 clear h
 obtain ⟨t372, A6, H⟩ := xO H
 (try dsimp only at H)
 by_cases c7 : t372 = true
 rotate_left
 ·replace c7 := Bool.eq_false_iff.mpr c7
  subst c7
  rw [if_neg (show ¬ (false = true) by decide)] at H
  simp only [Option.some.injEq, Prod.mk.injEq] at H
  obtain ⟨rfl, rfl⟩ := H
  go_enter Try.func57, Try.ntmps57
  go_wp2_with (first | (refine xV 5 #[.int .i64 a0_0, .bool a0_1] 46 ?_; intro gb371 hg w28 hbox hb; have BK371 := Aside0.mk (hbox); have GW371 := Aside0.mk ((by rw [hg]; exact (below_size (xB HB.out)) : w.heap.size ≤ gb371)); have GE371 := Aside0.mk ((by rw [hg]; exact (below_size (xB HB.out)) : w.heap.size ≤ gb371)); replace HB := Aside0.mk (below_step (xB HB.out) hb); clear hb hbox hg; have hcz29_0 : w28.cell? ⟨gb371, 0, none⟩ = some (.int .i64 a0_0) := (blk_cell BK371.out 0).trans rfl; have hcz29_1 : w28.cell? ⟨gb371, 1, none⟩ = some (.bool a0_1) := (blk_cell BK371.out 1).trans rfl; have hfz29_0 := blk_frozen BK371.out 0; have hfz29_1 := blk_frozen BK371.out 1) | (refine xG (some 20) Try.func252 #[.agg #[.int .i64 a0_0, .bool a0_1], .slice A1 l1.length c1, .slice A2 l2.length c2, .int .i64 a3, .int .i64 a4] ?_; (with_reducible refine (impl_inWord.calls k a0_0 a0_1 _ _ l1 _ _ l2 a3 a4 false _ ?side1 ?side2 ?side3 ?side4 A6.out).mono ?_); (case side1 => exact xC (Kd.C_below HR1.out HB.out)); (case side2 => exact HC1.out); (case side3 => exact xC (Kd.C_below HR2.out HB.out)); (case side4 => exact HC2.out); rintro e w30 ⟨rfl, hb⟩; refine ⟨_, rfl, ?_⟩; replace BK371 := Aside0.mk (blk_below (g := gb371) (o := .cells #[.int .i64 a0_0, .bool a0_1] 46 (0, 0)) (by (with_reducible repeat (first | refine blk_drewN ?_ _ | refine blk_drew ?_ | refine blk_alloc ?_ _)); exact BK371.out) hb); replace HB := Aside0.mk (below_step (by repeat (first | (with_reducible first | exact HB.out | apply below_alloc | apply pw_below_drewN | apply below_drew1 | refine below_set ?_ GE371.out) | exact HB.out)) hb); (try clear hb); (try clear hb2); (try clear hk); (try clear hi)))
  go_ret2
  exact ⟨_, by first | rfl | (simp [errW_none, errW_some] <;> rfl) | (simp [*, errW_none, errW_some] <;> rfl), by first | exact Kd.R_nil _ _ _ _ _ | exact Kd.N_nil _ _ _ _ _ | exact Kd.V_nil _ _ _ _ _ | exact Kd.Q_nil _ _ _ _ _ | exact Kd.S_nil _ _ _ _ _, by repeat (first | (with_reducible first | exact HB.out | apply below_alloc | apply pw_below_drewN | apply below_drew1 | refine below_set ?_ GE371.out) | exact HB.out)⟩

 subst c7
 rw [if_pos rfl] at H
 obtain ⟨t373, A8, H⟩ := xO H
 (try dsimp only at H)
 by_cases c9 : 0 ≤ (l2.length : Int)
 rotate_left
 ·rw [if_neg c9] at H
  exact absurd H (by simp)
 rw [if_pos c9] at H
 have c9b0 := eq_true c9
 have c9b1 : decide (0 ≤ (l2.length : Int)) = true := decide_eq_true c9
 clear c9
 by_cases c10 : (l2.length : Int) ≤ (t373.length : Int)
 rotate_left
 ·rw [if_neg c10] at H
  exact absurd H (by simp)
 rw [if_pos c10] at H
 have c10b0 := eq_true c10
 have c10b1 : decide ((l2.length : Int) ≤ (t373.length : Int)) = true := decide_eq_true c10
 clear c10
 obtain ⟨y376, hy376⟩ : ∃ y_ : List Int, y_ = (t373.take ((l2.length : Int) : Int).toNat) := ⟨_, rfl⟩
 replace H : (impl_FilterAtEnd.l0 k a3 a4 y376 (y376.length : Int) 0 a0_0 a0_1) = some (r1, r2) := by first | (rw [hy376]; with_reducible exact H) | (have H2_ := (Option.bind_some _ _).symm.trans H; rw [hy376]; with_reducible exact H2_) | (have H2_ := (Option.bind_some _ _).symm.trans H; with_reducible exact H2_) | with_reducible exact H | (rw [hy376]; exact H) | exact H
 have Ny376 := Aside0.mk hy376
 clear hy376
 have H' := Aside0.mk H
 clear H
 go_enter Try.func57, Try.ntmps57
 go_wp2_with (first | (refine xV 5 #[.int .i64 a0_0, .bool a0_1] 46 ?_; intro gb371 hg w11 hbox hb; have BK371 := Aside0.mk (hbox); have GW371 := Aside0.mk ((by rw [hg]; exact (below_size (xB HB.out)) : w.heap.size ≤ gb371)); have GE371 := Aside0.mk ((by rw [hg]; exact (below_size (xB HB.out)) : w.heap.size ≤ gb371)); replace HB := Aside0.mk (below_step (xB HB.out) hb); clear hb hbox hg; have hcz12_0 : w11.cell? ⟨gb371, 0, none⟩ = some (.int .i64 a0_0) := (blk_cell BK371.out 0).trans rfl; have hcz12_1 : w11.cell? ⟨gb371, 1, none⟩ = some (.bool a0_1) := (blk_cell BK371.out 1).trans rfl; have hfz12_0 := blk_frozen BK371.out 0; have hfz12_1 := blk_frozen BK371.out 1) | (refine xG (some 20) Try.func252 #[.agg #[.int .i64 a0_0, .bool a0_1], .slice A1 l1.length c1, .slice A2 l2.length c2, .int .i64 a3, .int .i64 a4] ?_; (with_reducible refine (impl_inWord.calls k a0_0 a0_1 _ _ l1 _ _ l2 a3 a4 true _ ?side1 ?side2 ?side3 ?side4 A6.out).mono ?_); (case side1 => exact xC (Kd.C_below HR1.out HB.out)); (case side2 => exact HC1.out); (case side3 => exact xC (Kd.C_below HR2.out HB.out)); (case side4 => exact HC2.out); rintro e w13 ⟨rfl, hb⟩; refine ⟨_, rfl, ?_⟩; replace BK371 := Aside0.mk (blk_below (g := gb371) (o := .cells #[.int .i64 a0_0, .bool a0_1] 46 (0, 0)) (by (with_reducible repeat (first | refine blk_drewN ?_ _ | refine blk_drew ?_ | refine blk_alloc ?_ _)); exact BK371.out) hb); replace HB := Aside0.mk (below_step (by repeat (first | (with_reducible first | exact HB.out | apply below_alloc | apply pw_below_drewN | apply below_drew1 | refine below_set ?_ GE371.out) | exact HB.out)) hb); (try clear hb); (try clear hb2); (try clear hk); (try clear hi)) | (refine xG (some 24) Try.func258 #[.slice A1 l1.length c1, .slice A2 l2.length c2] ?_; (with_reducible refine (impl_answer.calls k _ _ l1 _ _ l2 t373 _ ?side1 ?side2 ?side3 ?side4 A8.out).mono ?_); (case side1 => exact xC (Kd.C_below HR1.out HB.out)); (case side2 => exact HC1.out); (case side3 => exact xC (Kd.C_below HR2.out HB.out)); (case side4 => exact HC2.out); rintro e w14 ⟨v374, rfl, ho0, hb⟩; refine ⟨_, rfl, ?_⟩; have HO375 := Aside0.mk (Kd.R_lower ho0 (below_size (by repeat (first | (with_reducible first | exact HB.out | apply below_alloc | apply pw_below_drewN | apply below_drew1 | refine below_set ?_ GE371.out) | exact HB.out)))); replace BK371 := Aside0.mk (blk_below (g := gb371) (o := .cells #[.int .i64 a0_0, .bool a0_1] 46 (0, 0)) (by (with_reducible repeat (first | refine blk_drewN ?_ _ | refine blk_drew ?_ | refine blk_alloc ?_ _)); exact BK371.out) hb); replace HB := Aside0.mk (below_step (by repeat (first | (with_reducible first | exact HB.out | apply below_alloc | apply pw_below_drewN | apply below_drew1 | refine below_set ?_ GE371.out) | exact HB.out)) hb); (try clear hb); (try clear hb2); (try clear hk); (try clear hi); (try clear ho0); obtain ⟨Ao15, co15, eo15⟩ := Kd.R_slice HO375.out; subst eo15; have q16 : ((l2.length : Int) : Int) ≤ ((t373.length : Int) : Int) := of_decide_eq_true (by first | (with_reducible assumption) | assumption); obtain ⟨i016, hi016, _, hsz16, _⟩ := info_parts info3; have hcut16 := cut_to (P := Try.prog) 24 3 .i64 Try.underlying24 hi016 Ao15 t373.length co15 (l2.length : Int) (of_decide_eq_true (by first | (with_reducible assumption) | assumption)) q16 (Kd.R_reads' HO375.out).2.1; have hr16 := Kd.R_take (m := ((l2.length : Int) : Int).toNat) HO375.out (by omega); have hy16 : y376.length = ((l2.length : Int) : Int).toNat := (by rw [Ny376.out, List.length_take]; omega); rw [← Ny376.out] at hr16; rw [← hy16] at hr16 hcut16; clear hy16 hi016 hsz16 HO375; have HO378 := Aside0.mk hr16; clear hr16; replace q16 := eq_true q16))
 go_loopg [30] k (fun kq v30 w' => ∃ (x12_1 : List Int) (x30_1 : Int), v30 = .int .i64 x30_1 ∧ Aside0 (impl_FilterAtEnd.l0 kq a3 a4 x12_1 (y376.length : Int) x30_1 a0_0 a0_1 = some (r1, r2)) ∧ Aside0 (kq ≤ k) ∧ Aside0 (Kd.R (Kd.int .i64) 3 w' w.heap.size (fun _ => True) (.slice Ao15 y376.length co15) x12_1) ∧ Aside0 (w'.heap[gb371]? = some (.cells #[.int .i64 a0_0, .bool a0_1] 46 (0, 0))) ∧ Aside0 (Below w.heap.size w w'))
 case atStart => exact ⟨(y376), (0), (by first | rfl | (simp; done) | (simp [*]; done)), H', ⟨Nat.le_refl _⟩, ⟨xR HO378.out⟩, ⟨by (with_reducible repeat (first | refine blk_drewN ?_ _ | refine blk_drew ?_ | refine blk_alloc ?_ _)); exact BK371.out⟩, ⟨by repeat (first | (with_reducible first | exact HB.out | apply below_alloc | apply pw_below_drewN | apply below_drew1 | refine below_set ?_ GE371.out) | exact HB.out)⟩⟩
 case round =>
  clear H'
  try clear c1
  try clear c2
  try clear c7
  try clear c9b0
  try clear c9b1
  try clear c10b0
  try clear c10b1
  try clear q16
  try clear hcz12_0
  try clear hcz12_1
  try clear hfz12_0
  try clear hfz12_1
  obtain ⟨x12_1, x30_1, rfl, HA, HK1, HO_12, BK371, HB⟩ := hrel
  have hl12_1 := (Kd.R_reads' HO_12.out).1
  rw [hl12_1] at HO_12
  (try simp only [hl12_1])
  (try simp only [hl12_1] at BK371)
  cases gk with
  | zero => exact absurd HA.out (by simp [impl_FilterAtEnd.l0])
  | succ k1 =>
   have H := HA.out
   clear HA
   simp only [impl_FilterAtEnd.l0] at H
   by_cases c17 : x30_1 < (y376.length : Int)
   rotate_left
   ·rw [if_neg c17] at H
    have c17b0 : decide (x30_1 < (y376.length : Int)) = false := decide_eq_false c17
    (try (have c17b5 := c17b0; rw [hl12_1] at c17b5))
    clear c17
    replace H := Option.bind_eq_some_iff.mp H
    obtain ⟨⟨t383, t386⟩, A260, H⟩ := H
    (try dsimp only at H)
    have A26 := Aside0.mk A260
    clear A260
    simp only [Option.some.injEq, Prod.mk.injEq] at H
    obtain ⟨rfl, rfl⟩ := H
    go_wp2_with (first | (refine xG (some 46) Try.func239 #[.slice Ao15 x12_1.length co15] ?_; (with_reducible refine (impl_told.calls k1 (fun k_ => some k_ = (.slice Ao15 x12_1.length co15 : Value).ownBlock) (.slice Ao15 x12_1.length co15) x12_1 t383 t386 w _ ?side1 ?side2 A26.out).mono ?_); (case side1 => repeat (first | (with_reducible first | exact HB.out | apply below_alloc | apply pw_below_drewN | apply below_drew1 | refine below_set ?_ GE371.out) | exact HB.out)); (case side2 => exact Kd.R_tight rfl HO_12.out); rintro e w27 ⟨v384, rfl, ho0, hb, hkp⟩; refine ⟨_, rfl, ?_⟩; replace BK371 := Aside0.mk (blk_kept (by (with_reducible repeat (first | refine blk_drewN ?_ _ | refine blk_drew ?_ | refine blk_alloc ?_ _)); exact BK371.out) hkp (fun hs_ => (fun e_ => (Kd.R_ne HO_12.out BK371.out (by decide)) e_) hs_)); have HO385 := Aside0.mk (Kd.R_mono (ok' := fun k_ => True) ho0 (fun k_ hk_ => trivial)); replace HB := Aside0.mk (hb); clear HO_12; (try clear hb); (try clear hkp); (try clear ho0)))
    go_ret2
    exact ⟨_, by first | rfl | (simp [errW_none, errW_some] <;> rfl) | (simp [*, errW_none, errW_some] <;> rfl), xR HO385.out, by repeat (first | (with_reducible first | exact HB.out | apply below_alloc | apply pw_below_drewN | apply below_drew1 | refine below_set ?_ GE371.out) | exact HB.out)⟩
   rw [if_pos c17] at H
   have c17b0 : decide (x30_1 < (y376.length : Int)) = true := decide_eq_true c17
   (try (have c17b5 := c17b0; rw [hl12_1] at c17b5))
   clear c17
   by_cases c18 : 0 ≤ x30_1
   rotate_left
   ·rw [if_neg c18] at H
    exact absurd H (by simp)
   rw [if_pos c18] at H
   have c18b0 : decide (0 ≤ x30_1) = true := decide_eq_true c18
   clear c18
   by_cases c19 : x30_1 < (x12_1.length : Int)
   rotate_left
   ·rw [if_neg c19] at H
    exact absurd H (by simp)
   rw [if_pos c19] at H
   have c19b0 : decide (x30_1 < (x12_1.length : Int)) = true := decide_eq_true c19
   (try (have c19b5 := c19b0; rw [hl12_1] at c19b5))
   clear c19
   obtain ⟨t380, A20, H⟩ := xO H
   (try dsimp only at H)
   obtain ⟨t381, A21, H⟩ := xO H
   (try dsimp only at H)
   obtain ⟨y382, hy382⟩ : ∃ y_ : List Int, y_ = (x12_1.set (x30_1 : Int).toNat t381) := ⟨_, rfl⟩
   replace H : (impl_FilterAtEnd.l0 k1 a3 a4 y382 (y376.length : Int) (wrap64 (x30_1 + 1)) a0_0 a0_1) = some (r1, r2) := by first | (rw [hy382]; with_reducible exact H) | (have H2_ := (Option.bind_some _ _).symm.trans H; rw [hy382]; with_reducible exact H2_) | (have H2_ := (Option.bind_some _ _).symm.trans H; with_reducible exact H2_) | with_reducible exact H | (rw [hy382]; exact H) | exact H
   have Ny382 := Aside0.mk hy382
   clear hy382
   have H' := Aside0.mk H
   clear H
   have p379 : 0 ≤ (x30_1 : Int) := of_decide_eq_true (by first | (with_reducible assumption) | assumption)
   have q379 : x30_1 < (x12_1.length : Int) := of_decide_eq_true (by first | (with_reducible assumption) | assumption)
   obtain ⟨ad379, e379, hx379_0⟩ := Kd.at_int (Kd.R_reads' HO_12.out).2.2 x30_1 p379 q379
   cases e379
   replace p379 := eq_true p379
   replace q379 := eq_true q379
   try go_wp2
   have n0_ := Aside0.mk (Kd.R_drew HO_12.out)
   have n1_ := Aside0.mk (blk_drew BK371.out)
   have n2_ := Aside0.mk (below_drew1 HB.out)
   clear HO_12
   clear BK371
   clear HB
   have HO_12 := n0_
   have BK371 := n1_
   have HB := n2_
   clear n0_ n1_ n2_
   refine start_ (n := 10) (S := fun w' => w'.cell? ⟨gb371, 0, none⟩ = some (.int .i64 a0_0) ∧ w'.cell? ⟨gb371, 1, none⟩ = some (.bool a0_1)) (ds := [9]) x10a0 (by kernel_rfl) rfl rfl ⟨(blk_cell BK371.out 0).trans rfl, (blk_cell BK371.out 1).trans rfl⟩ (fun hHeld => ?_); refine with_tabW impl_FilterAtEnd.tab7 impl_FilterAtEnd.bits7 (fun HT_ HW_ => ?_)
   generalize wr.drew = w23 at HO_12 BK371 HB hHeld ⊢
   refine pure_ (i := 0) (N := some 35) (v := ?_) (a' := ?_) x10a1 rfl rfl (any_of HT_.out (by kernel_rfl)) (fun _ _ _ h => h) (Or.inl ⟨by rfl, ?_⟩) ?_ ?_; rotate_left; (intro w'; go_simp; with_reducible rfl); rotate_left; exact xE
   refine pure_ (i := 1) (N := some 36) (v := ?_) (a' := ?_) x10a2 rfl rfl (any_of HT_.out (by kernel_rfl)) (fun _ _ _ h => h) (Or.inl ⟨by rfl, ?_⟩) ?_ ?_; rotate_left; (intro w'; go_simp; with_reducible rfl); rotate_left; exact xE
   refine pure_ (i := 3) (N := some 38) (v := ?_) (a' := ?_) x10a3 rfl rfl (any_of HT_.out (by kernel_rfl)) (fun _ _ _ h => h) (Or.inl ⟨by rfl, ?_⟩) ?_ ?_; rotate_left; (intro w'; go_simp; with_reducible rfl); rotate_left; exact xE
   refine pure_ (i := 4) (N := some 39) (v := ?_) (a' := ?_) x10a4 rfl rfl (any_of HT_.out (by kernel_rfl)) (fun _ _ _ h => h) (Or.inl ⟨by rfl, ?_⟩) ?_ ?_; rotate_left; (intro w'; go_simp; with_reducible rfl); rotate_left; exact xE
   refine pure_ (i := 5) (N := some 40) (v := ?_) (a' := ?_) x10a5 rfl rfl (any_of HT_.out (by kernel_rfl)) (fun _ _ _ h => h) (Or.inl ⟨by rfl, ?_⟩) ?_ ?_; rotate_left; (intro w'; go_simp; with_reducible rfl); rotate_left; exact xE
   refine take_ (i := 2) (N := some 37) (v := ?_) (a' := ?_) x10a6 rfl rfl (take_ofW HT_.out HW_.out (by kernel_rfl)) (fun _ _ _ h => h) (Or.inl ⟨by rfl, ?_⟩) hHeld ?_ ?_
   rotate_left
   ·rintro w' ⟨s0, s1⟩
    go_simp
    with_reducible rfl
   rotate_left
   ·exact xE
   refine one_ (i := 6) (N := some 41) x10a7 rfl rfl (one_of HT_.out (by kernel_rfl)) (by decide) (fun K hK => ?_)
   refine goes_ Try.func254 (by kernel_rfl) rfl #[.int .i64 (rd x12_1 x30_1), .int .i64 a3, .int .i64 a4] (by rfl) rfl rfl (by (try simp only [List.map_toArray, List.map_cons, List.map_nil]); first | done | rfl | (simp only [List.length_drop, List.length_take]; rfl)) ?_
   with_reducible refine (impl_shifted.calls k1 (rd x12_1 x30_1) a3 a4 t380 _ A20.out).mono ?_
   rintro e w' ⟨rfl, ⟨nd, rfl⟩⟩
   refine ⟨_, rfl, ?_⟩
   refine hK.out _ _ ⟨(blk_cell BK371.out 0).trans rfl, (blk_cell BK371.out 1).trans rfl⟩ (fun hHeld => ?_)
   clear hK K
   refine norm_ (a' := ?_) ?_ ?_
   rotate_left
   ·show Act.put _ (some 41) _ = _
    simp only [Act.put, List.setIfInBounds_toArray, List.set_cons_zero, List.set_cons_succ, i64_w, i32_w]
    rfl
   refine one_ (i := 7) (N := some 42) x10a8 rfl rfl (one_of HT_.out (by kernel_rfl)) (by decide) (fun K hK => ?_)
   refine goes_ Try.func253 (by kernel_rfl) rfl #[.agg #[.int .i64 a0_0, .bool a0_1], .int .i64 t380] (by rfl) rfl rfl (by (try simp only [List.map_toArray, List.map_cons, List.map_nil]); first | done | rfl | (simp only [List.length_drop, List.length_take]; rfl)) ?_
   with_reducible refine (impl_Word_fit.calls a0_0 a0_1 t380 t381 _ A21.out).mono ?_
   rintro e w24 ⟨rfl, hb⟩
   refine ⟨_, rfl, ?_⟩
   have n0_ := Aside0.mk (Kd.R_below (xR HO_12.out) hb)
   have n1_ := Aside0.mk (blk_below (g := gb371) (o := .cells #[.int .i64 a0_0, .bool a0_1] 46 (0, 0)) (by (with_reducible repeat (first | refine blk_drewN ?_ _ | refine blk_drew ?_ | refine blk_alloc ?_ _)); exact BK371.out) hb)
   have n2_ := Aside0.mk (below_step (by repeat (first | (with_reducible first | exact HB.out | apply below_alloc | apply pw_below_drewN | apply below_drew1 | refine below_set ?_ GE371.out) | exact HB.out)) hb)
   clear HO_12
   clear BK371
   clear HB
   have HO_12 := n0_
   have BK371 := n1_
   have HB := n2_
   clear n0_ n1_ n2_
   (try clear hb)
   (try clear hb2)
   (try clear hk)
   (try clear hi)
   have p22 : 0 ≤ (x30_1 : Int) := of_decide_eq_true (by first | (with_reducible assumption) | assumption)
   have q22 : (x30_1 : Int) < ((x12_1.length : Int) : Int) := of_decide_eq_true (by first | (with_reducible assumption) | assumption)
   obtain ⟨go22, co22, eo22, gb22, gl22, cl22, HG22⟩ := Kd.R_form HO_12.out (by omega)
   (first | cases eo22 | (injection eo22 with ea_ en_ ec_; (first | subst ea_ | (injection ea_ with ea_; subst ea_)); subst ec_; clear en_))
   have GB22 := Aside0.mk gb22
   have GG22 := Aside0.mk HG22
   clear gb22 gl22 HG22
   (first | simp only [add_plain] at hx379_0 | skip)
   obtain ⟨hx22_0, hf22_0⟩ := Kd.R_celln 0 HO_12.out (x30_1 : Int) p22 q22
   replace p22 := eq_true p22
   replace q22 := eq_true q22
   have HP25 := xPutn HO_12.out (x30_1 : Int) t381
   rw [← Ny382.out] at HP25
   have HQ25 := Aside0.mk HP25
   clear HP25
   refine hK.out _ _ ⟨(blk_cell BK371.out 0).trans rfl, (blk_cell BK371.out 1).trans rfl⟩ (fun hHeld => ?_)
   clear hK K
   refine norm_ (a' := ?_) ?_ ?_
   rotate_left
   ·show Act.put _ (some 42) _ = _
    simp only [Act.put, List.setIfInBounds_toArray, List.set_cons_zero, List.set_cons_succ, i64_w, i32_w]
    rfl
   refine pure_ (i := 8) (N := some 43) (v := ?_) (a' := ?_) x10a9 rfl rfl (any_of HT_.out (by kernel_rfl)) (fun _ _ _ h => h) (Or.inl ⟨by rfl, ?_⟩) ?_ ?_; rotate_left; (intro w'; go_simp; with_reducible rfl); rotate_left; exact xE
   refine last_ (i := 9) (N := none) x10a10 rfl rfl (one_of HT_.out (by kernel_rfl)) (by decide) (fun K hK => ?_)
   refine skip_ (w1 := ?_) (by rfl) rfl ?_ ?_
   rotate_left
   ·go_simp
    rfl
   refine hK.out _ _ ?_
   clear hK K
   refine done_ (done_of HT_.out (by kernel_rfl)) ?_
   try go_wp2
   (try simp only [← hl12_1])
   go_roundg k1
   case measure => have := HK1.out; omega
   case rel => exact ⟨(y382), (wrap64 (x30_1 + 1)), (by first | rfl | (simp; done) | (simp [*]; done)), H', ⟨by have := HK1.out; omega⟩, ⟨by (try simp only [hl12_1]); (with_reducible repeat (first | apply Kd.R_alloc | apply Kd.R_drewN | apply Kd.R_drew)); exact HQ25.out⟩, ⟨by (try simp only [hl12_1]); (with_reducible repeat (first | refine blk_drewN ?_ _ | refine blk_drew ?_ | refine blk_alloc ?_ _)); refine blk_far ?_ (by have h_ := Kd.R_ne HO_12.out BK371.out (by decide); intro e_; exact h_ (by rw [e_]; rfl)) _; (with_reducible repeat (first | refine blk_drewN ?_ _ | refine blk_drew ?_ | refine blk_alloc ?_ _)); exact BK371.out⟩, ⟨by repeat (first | (with_reducible first | exact HB.out | apply below_alloc | apply pw_below_drewN | apply below_drew1 | refine below_set ?_ GB22.out | refine below_set ?_ GE371.out) | exact HB.out)⟩⟩
end Go.Proofs.Ytjplcongellcmaa.PFnFiltersInWords
