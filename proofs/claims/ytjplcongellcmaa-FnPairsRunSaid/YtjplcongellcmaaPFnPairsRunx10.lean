/- What each Go function that the statement FnPairsRun reaches answers, proved call by call. No condition beyond those that the theorems print. (Written by wip/tools/xprint.py of this repo, over the kit's print.) -/
import Derived.Test.YtjplcongellcmaaPFnPairsRunx0
import Derived.Test.YtjplcongellcmaaPFnPairsRunx2
import Derived.Test.YtjplcongellcmaaPFnPairsRunx5
import Derived.Test.YtjplcongellcmaaPFnPairsRunx6
import Derived.Test.YtjplcongellcmaaPFnPairsRunx7
import Derived.Test.YtjplcongellcmaaPFnPairsRunx8
namespace Go.Proofs.Ytjplcongellcmaa.PFnPairsRun
open Go.RowKit Go.Proofs.YtjplcongellcmaaW.PrintWords Go.Proofs.YtjplcongellcmaaW.PrintLast Go.Proofs.YtjplcongellcmaaW.PrintMore
attribute [local go_sem] max2_int min2_int max_two min_two max_three min_three max_four min_four   -- for this text's walks alone
set_option linter.unusedVariables false
set_option linter.unusedSimpArgs false
def x10a0 : Array Bool := #[Zz,Zz,Zz,Zz,Zz,Zz,Zz,Zz]
def x10a1 : Array Bool := #[Yy,Zz,Zz,Zz,Zz,Zz,Zz,Zz]
def x10a2 : Array Bool := #[Yy,Zz,Zz,Zz,Yy,Zz,Zz,Zz]
def x10a3 : Array Bool := #[Yy,Yy,Zz,Zz,Yy,Zz,Zz,Zz]
def x10a4 : Array Bool := #[Yy,Yy,Yy,Zz,Yy,Zz,Zz,Zz]
def x10a5 : Array Bool := #[Yy,Yy,Yy,Yy,Yy,Zz,Zz,Zz]
def x10a6 : Array Bool := #[Yy,Yy,Yy,Yy,Yy,Yy,Zz,Zz]
def x10a7 : Array Bool := #[Yy,Yy,Yy,Yy,Yy,Yy,Yy,Zz]
def x10a8 : Array Bool := #[Yy,Yy,Yy,Yy,Yy,Yy,Yy,Yy]

/-! ### impl_CountPairFits: function 142 -/
mutual
def impl_CountPairFits.j0 : Nat → Int → Int → List Int → Bool → Int → Int → Int → Int → Int → Bool → Option (Int × Bool)
 | 0, _, _, _, _, _, _, _, _, _, _ => none
 | k + 1, x1, x2, x3, x23, x397000, x397001, x397002, x397003, x397004, x397005 => if x23 = true then (some (0, false)) else (impl_CountPairFits.l0 k 0 x3 (x3.length : Int) 0 x397000 x397001 x397002 x397003 x397004 x397005 x1 x2)
def impl_CountPairFits.l0 : Nat → Int → List Int → Int → Int → Int → Int → Int → Int → Int → Bool → Int → Int → Option (Int × Bool)
 | 0, _, _, _, _, _, _, _, _, _, _, _, _ => none
 | k + 1, x10, x27, x28, x29, x397000, x397001, x397002, x397003, x397004, x397005, x400000, x400001 => if x29 < x28 then (if 0 ≤ x29 then (if x29 < (x27.length : Int) then ((impl_Second_raw.f k x397000 x397001 x397002 x397003 x397004 x397005 x400000 x400001 (rd x27 x29)).bind fun t401 => ((impl_Word_has.f x397004 x397005 t401).bind fun t402 => (if t402 = true then ((impl_Second_step.f k x397000 x397001 x397002 x397003 x397004 x397005 x400000 x400001 (rd x27 x29)).bind fun bt403 => (impl_CountPairFits.l0 k x10 x27 x28 (wrap64 (x29 + 1)) x397000 x397001 x397002 x397003 x397004 x397005 bt403.1 bt403.2)) else ((impl_Second_step.f k x397000 x397001 x397002 x397003 x397004 x397005 x400000 x400001 (rd x27 x29)).bind fun bt405 => (impl_CountPairFits.l0 k (wrap64 (x10 + 1)) x27 x28 (wrap64 (x29 + 1)) x397000 x397001 x397002 x397003 x397004 x397005 bt405.1 bt405.2))))) else (none)) else (none)) else (some (x10, true))
end
def impl_CountPairFits.f (k : Nat) (a0_0 : Int) (a0_1 : Int) (a0_2 : Int) (a0_3 : Int) (a0_4 : Int) (a0_5 : Bool) (a1 : Int) (a2 : Int) (l3 : List Int) : Option (Int × Bool) := (impl_Second_isAt.f a0_0 a0_1 a0_2 a0_3 a0_4 a0_5 a1 a2).bind fun t397 => (if t397 = true then ((impl_isSignal.f k l3).bind fun t398 => (impl_CountPairFits.j0 k a1 a2 l3 (!t398) a0_0 a0_1 a0_2 a0_3 a0_4 a0_5)) else (impl_CountPairFits.j0 k a1 a2 l3 true a0_0 a0_1 a0_2 a0_3 a0_4 a0_5))
theorem impl_CountPairFits.mono_l : ∀ k, (∀ y0 y1 y2 y3 y4 y5 y6 y7 y8 y9, LeO (impl_CountPairFits.j0 k y0 y1 y2 y3 y4 y5 y6 y7 y8 y9) (impl_CountPairFits.j0 (k + 1) y0 y1 y2 y3 y4 y5 y6 y7 y8 y9)) ∧ (∀ y0 y1 y2 y3 y4 y5 y6 y7 y8 y9 y10 y11, LeO (impl_CountPairFits.l0 k y0 y1 y2 y3 y4 y5 y6 y7 y8 y9 y10 y11) (impl_CountPairFits.l0 (k + 1) y0 y1 y2 y3 y4 y5 y6 y7 y8 y9 y10 y11))
 | 0 => ⟨fun _ _ _ _ _ _ _ _ _ _ r h => by simp [impl_CountPairFits.j0] at h, fun _ _ _ _ _ _ _ _ _ _ _ _ r h => by simp [impl_CountPairFits.l0] at h⟩
 | k + 1 => by
  obtain ⟨ih0, ih1⟩ := impl_CountPairFits.mono_l k
  have m0 := @impl_Second_raw.mono
  have m1 := @impl_Second_step.mono
  have m2 := @impl_isSignal.mono
  refine ⟨?_, ?_⟩ <;> intros
  ·unfold impl_CountPairFits.j0; exact xM
  ·unfold impl_CountPairFits.l0; exact xM
theorem impl_CountPairFits.mono : ∀ a0 a1 a2 a3 a4 a5 a6 a7 a8 k, LeO (impl_CountPairFits.f k a0 a1 a2 a3 a4 a5 a6 a7 a8) (impl_CountPairFits.f (k + 1) a0 a1 a2 a3 a4 a5 a6 a7 a8) := by
 intro a0 a1 a2 a3 a4 a5 a6 a7 a8 k
 obtain ⟨ih0, ih1⟩ := impl_CountPairFits.mono_l k
 have m0 := @impl_Second_raw.mono
 have m1 := @impl_Second_step.mono
 have m2 := @impl_isSignal.mono
 unfold impl_CountPairFits.f
 exact xM
def impl_CountPairFits.T7 : Bool × List (List Nat × List Nat) := (true, [([], []), ([0], [0]), ([], []), ([], []), ([], []), ([2, 3, 4], [2, 3, 4]), ([1, 5, 5], [1, 5]), ([6], [6])])
def impl_CountPairFits.B7 : List Nat := [0, 1, 0, 0, 0, 28, 63, 127]
theorem impl_CountPairFits.tab7 : rtab .any (opsOf Try.f142 7) = impl_CountPairFits.T7 := by kernel_rfl
theorem impl_CountPairFits.bits7 : waitsOk impl_CountPairFits.T7.2 impl_CountPairFits.B7 = true := by kernel_rfl
set_option maxHeartbeats 200000000 in
set_option maxRecDepth 100000 in
theorem impl_CountPairFits.calls (k : Nat) (a0_0 : Int) (a0_1 : Int) (a0_2 : Int) (a0_3 : Int) (a0_4 : Int) (a0_5 : Bool) (a1 : Int) (a2 : Int) (A3 : Option Addr) (c3 : Nat) (l3 : List Int) (r1 : Int) (r2 : Bool) (w : World) (hr3 : Kd.C (Kd.int .i64) w A3 l3.length l3) (hc3 : l3.length ≤ c3) (h : impl_CountPairFits.f k a0_0 a0_1 a0_2 a0_3 a0_4 a0_5 a1 a2 l3 = some (r1, r2)) :
  Calls Try.prog 142 #[.agg #[.int .i64 a0_0, .int .i64 a0_1, .int .i64 a0_2, .int .i64 a0_3, .int .i64 a0_4, .bool a0_5], .int .i64 a1, .int .i64 a2, .slice A3 l3.length c3] w fun e w' => e = .returned (.tuple #[.int .i64 r1, .bool r2]) ∧ Below w.heap.size w w' := by
 have hu91 := Try.underlying91
 have hu180 := Try.underlying180
 have hu46 := Try.underlying46
 have HR3 := xA hr3
 have HC3 := xA hc3
 clear hr3 hc3
 have HB := xA (Below.refl w.heap.size w)
 have H : ((impl_Second_isAt.f a0_0 a0_1 a0_2 a0_3 a0_4 a0_5 a1 a2).bind fun t397 => (if t397 = true then ((impl_isSignal.f k l3).bind fun t398 => (impl_CountPairFits.j0 k a1 a2 l3 (!t398) a0_0 a0_1 a0_2 a0_3 a0_4 a0_5)) else (impl_CountPairFits.j0 k a1 a2 l3 true a0_0 a0_1 a0_2 a0_3 a0_4 a0_5))) = some (r1, r2) := h
 clear h
 have HC5 := xA H
 clear H
 go_enter Try.func142, Try.ntmps142
 go_upto_region 1 with (first | (refine xg 4 rfl ?_; refine xV 4 #[.int .i64 a0_0, .int .i64 a0_1, .int .i64 a0_2, .int .i64 a0_3, .int .i64 a0_4, .bool a0_5] 91 ?_; intro gb396 hg w6 hbox hb; have BK396 := xA (hbox); have GW396 := xgw hg (below_size (xB HB.out)); have GE396 := GW396; replace HB := xA (below_step (xB HB.out) hb); clear hb hbox hg))
 (try simp only [Act.put, List.setIfInBounds_toArray, List.set_cons_zero, List.set_cons_succ])
 go_cut [23] from 14 to 14 (fun v23 wc => ∃ (kq : Nat) (x23_4 : Bool), v23 = .bool x23_4 ∧ Aside0 (impl_CountPairFits.j0 kq a1 a2 l3 x23_4 a0_0 a0_1 a0_2 a0_3 a0_4 a0_5 = some (r1, r2)) ∧ Aside0 (kq ≤ k) ∧ Aside0 (wc.heap[gb396]? = some (.cells #[.int .i64 a0_0, .int .i64 a0_1, .int .i64 a0_2, .int .i64 a0_3, .int .i64 a0_4, .bool a0_5] 91 (0, 0))) ∧ Aside0 (Below w.heap.size w wc))
 case first => as_aux_lemma =>
  have H := HC5.out
  clear HC5
  obtain ⟨t397, A7, H⟩ := xO H
  (try dsimp only at H)
  by_cases c8 : t397 = true
  rotate_left
  ·replace c8 := Bool.eq_false_iff.mpr c8
   subst c8
   rw [if_neg (show ¬ (false = true) by decide)] at H
   have H' := xA H
   clear H
   replace hz396 := blk_cell BK396.out; replace hy396 := blk_frozen BK396.out
   go_wp2_with (first | (refine xG (some 17) Try.func336 #[.agg #[.int .i64 a0_0, .int .i64 a0_1, .int .i64 a0_2, .int .i64 a0_3, .int .i64 a0_4, .bool a0_5], .int .i64 a1, .int .i64 a2] ?_; (with_reducible refine (impl_Second_isAt.calls a0_0 a0_1 a0_2 a0_3 a0_4 a0_5 a1 a2 false _ A7.out).mono ?_); rintro e w13 ⟨rfl, hb⟩; refine ⟨_, rfl, ?_⟩; replace BK396 := xkb BK396 hb; replace HB := xA (below_step (xB1 GE396.out HB.out) hb); (try clear hb)))
   go_meet
   case rel => exact ⟨_, (true), xs, H', ⟨by first | omega | exact Nat.le_refl _⟩, ⟨xK BK396.out⟩, ⟨xB1 GE396.out HB.out⟩⟩
  subst c8
  rw [if_pos rfl] at H
  obtain ⟨t398, A9, H⟩ := xO H
  (try dsimp only at H)
  have H' := xA H
  clear H
  replace hz396 := blk_cell BK396.out; replace hy396 := blk_frozen BK396.out
  go_wp2_with (first | (refine xG (some 17) Try.func336 #[.agg #[.int .i64 a0_0, .int .i64 a0_1, .int .i64 a0_2, .int .i64 a0_3, .int .i64 a0_4, .bool a0_5], .int .i64 a1, .int .i64 a2] ?_; (with_reducible refine (impl_Second_isAt.calls a0_0 a0_1 a0_2 a0_3 a0_4 a0_5 a1 a2 true _ A7.out).mono ?_); rintro e w11 ⟨rfl, hb⟩; refine ⟨_, rfl, ?_⟩; replace BK396 := xkb BK396 hb; replace HB := xA (below_step (xB1 GE396.out HB.out) hb); (try clear hb)) | (go_at_call 233; (with_reducible refine (impl_isSignal.calls k _ _ l3 t398 _ ?side1 ?side2 A9.out).mono ?_); (case side1 => exact xC (Kd.C_below HR3.out HB.out)); (case side2 => exact HC3.out); rintro e w' ⟨rfl, ⟨nd, rfl⟩⟩))
  go_meet
  case rel => exact ⟨_, (!t398), xs, H', ⟨by first | omega | exact Nat.le_refl _⟩, ⟨xK BK396.out⟩, ⟨xB1 GE396.out HB.out⟩⟩
 case rest => as_aux_lemma =>
  clear HC5
  try clear c3
  obtain ⟨kq, x23_4, rfl, HA, HJ4, BK396, HB⟩ := hcut
  cases kq with
  | zero => exact absurd HA.out (by simp [impl_CountPairFits.j0])
  | succ kj4 =>
   have H := HA.out
   clear HA
   simp only [impl_CountPairFits.j0] at H
   by_cases c14 : x23_4 = true
   ·subst c14
    rw [if_pos rfl] at H
    simp only [Option.some.injEq, Prod.mk.injEq] at H
    obtain ⟨rfl, rfl⟩ := H
    go_wp2
    go_ret2
    exact ⟨xr, xB1 GE396.out HB.out⟩
   replace c14 := Bool.eq_false_iff.mpr c14
   subst c14
   rw [if_neg (show ¬ (false = true) by decide)] at H
   have H' := xA H
   clear H
   go_wp2_with (first | (refine xg 11 rfl ?_; refine xV 11 #[.int .i64 0, .int .i64 0] 180 ?_; intro gb399 hg w15 hbox hb; have BK399 := xA (hbox); have GW399 := xgw hg (below_size (xB1 GE396.out HB.out)); have GE399 := GW399; replace HB := xA (below_step (xB1 GE396.out HB.out) hb); have NB396_399 := xnl hg BK396; have NB399_396 := xng hg BK396; replace BK396 := xkb BK396 hb; clear hb hbox hg; have hnb16 := NB399_396.out; have hnc16 := NB396_399.out; obtain ⟨hcz17_0, hcz17_1, hfz17_0, hfz17_1⟩ := xZ2 BK399.out))
   go_loopg [10, 29] kj4 (fun kq v10 v29 w' => ∃ (x10_2 : Int) (x29_2 : Int) (x400000_2 : Int) (x400001_2 : Int), v10 = .int .i64 x10_2 ∧ v29 = .int .i64 x29_2 ∧ Aside0 (impl_CountPairFits.l0 kq x10_2 l3 (l3.length : Int) x29_2 a0_0 a0_1 a0_2 a0_3 a0_4 a0_5 x400000_2 x400001_2 = some (r1, r2)) ∧ Aside0 (kq ≤ kj4) ∧ Aside0 (w'.heap[gb396]? = some (.cells #[.int .i64 a0_0, .int .i64 a0_1, .int .i64 a0_2, .int .i64 a0_3, .int .i64 a0_4, .bool a0_5] 91 (0, 0))) ∧ Aside0 (w'.heap[gb399]? = some (.cells #[.int .i64 x400000_2, .int .i64 x400001_2] 180 (0, 0))) ∧ Aside0 (Below w.heap.size w w'))
   case atStart => exact ⟨(0), (0), (a1), (a2), xs, xs, H', ⟨Nat.le_refl _⟩, ⟨by (with_reducible repeat (first | refine blk_drewN ?_ _ | refine blk_drew ?_ | refine blk_alloc ?_ _)); refine blk_far ?_ NB396_399.out _; (with_reducible repeat (first | refine blk_drewN ?_ _ | refine blk_drew ?_ | refine blk_alloc ?_ _)); refine blk_far ?_ NB396_399.out _; (with_reducible repeat (first | refine blk_drewN ?_ _ | refine blk_drew ?_ | refine blk_alloc ?_ _)); exact BK396.out⟩, ⟨by (with_reducible repeat (first | refine blk_drewN ?_ _ | refine blk_drew ?_ | refine blk_alloc ?_ _)); refine blk_put (cs := #[.int .i64 a1, .int .i64 0]) ?_ 1 _ rfl; (with_reducible repeat (first | refine blk_drewN ?_ _ | refine blk_drew ?_ | refine blk_alloc ?_ _)); refine blk_put (cs := #[.int .i64 0, .int .i64 0]) ?_ 0 _ rfl; (with_reducible repeat (first | refine blk_drewN ?_ _ | refine blk_drew ?_ | refine blk_alloc ?_ _)); exact BK399.out⟩, ⟨xB2 GE396.out GE399.out HB.out⟩⟩
   case round =>
    clear H'
    try clear c14
    try clear hcz17_0
    try clear hcz17_1
    try clear hfz17_0
    try clear hfz17_1
    obtain ⟨x10_2, x29_2, x400000_2, x400001_2, rfl, rfl, HA, HK2, BK396, BK399, HB⟩ := hrel
    cases gk with
    | zero => exact absurd HA.out (by simp [impl_CountPairFits.l0])
    | succ k2 =>
     have H := HA.out
     clear HA
     simp only [impl_CountPairFits.l0] at H
     by_cases c18 : x29_2 < (l3.length : Int)
     rotate_left
     ·rw [if_neg c18] at H
      have c18b0 : decide (x29_2 < (l3.length : Int)) = false := decide_eq_false c18
      clear c18
      simp only [Option.some.injEq, Prod.mk.injEq] at H
      obtain ⟨rfl, rfl⟩ := H
      go_wp2
      go_ret2
      exact ⟨xr, xB2 GE396.out GE399.out HB.out⟩

     rw [if_pos c18] at H
     have c18b0 : decide (x29_2 < (l3.length : Int)) = true := decide_eq_true c18
     clear c18
     by_cases c19 : 0 ≤ x29_2
     rotate_left
     ·rw [if_neg c19] at H
      exact absurd H (by simp)
     rw [if_pos c19] at H
     have c19b0 : decide (0 ≤ x29_2) = true := decide_eq_true c19
     clear c19
     by_cases c20 : x29_2 < (l3.length : Int)
     rotate_left
     ·rw [if_neg c20] at H
      exact absurd H (by simp)
     rw [if_pos c20] at H
     have c20b0 : decide (x29_2 < (l3.length : Int)) = true := decide_eq_true c20
     clear c20
     obtain ⟨t401, A21, H⟩ := xO H
     (try dsimp only at H)
     obtain ⟨t402, A22, H⟩ := xO H
     (try dsimp only at H)
     by_cases c23 : t402 = true
     ·subst c23
      rw [if_pos rfl] at H
      replace H := Option.bind_eq_some_iff.mp H
      obtain ⟨⟨t403, t404⟩, A240, H⟩ := H
      (try dsimp only at H)
      have A24 := xA A240
      clear A240
      have H' := xA H
      clear H
      have p400 : 0 ≤ (x29_2 : Int) := of_decide_eq_true (by first | (with_reducible assumption) | assumption)
      have q400 : x29_2 < (l3.length : Int) := of_decide_eq_true (by first | (with_reducible assumption) | assumption)
      obtain ⟨ad400, e400, hx400_0⟩ := Kd.at_int HR3.out x29_2 p400 q400
      cases e400
      replace hx400_0 := (HB.out.cell (World.block_lt_of_cell? w _ hx400_0)).trans hx400_0
      replace p400 := eq_true p400
      replace q400 := eq_true q400
      try go_wp2
      replace BK396 := xA (blk_drew BK396.out)
      replace BK399 := xA (blk_drew BK399.out)
      replace HB := xA (below_drew1 HB.out)
      refine start_ (n := 8) (S := fun w' => w'.cell? ⟨gb396, 0, none⟩ = some (.int .i64 a0_0) ∧ w'.cell? ⟨gb396, 1, none⟩ = some (.int .i64 a0_1) ∧ w'.cell? ⟨gb396, 2, none⟩ = some (.int .i64 a0_2) ∧ w'.cell? ⟨gb396, 3, none⟩ = some (.int .i64 a0_3) ∧ w'.cell? ⟨gb396, 4, none⟩ = some (.int .i64 a0_4) ∧ w'.cell? ⟨gb396, 5, none⟩ = some (.bool a0_5) ∧ w'.cell? ⟨gb399, 0, none⟩ = some (.int .i64 x400000_2) ∧ w'.cell? ⟨gb399, 1, none⟩ = some (.int .i64 x400001_2)) (ds := []) x10a0 (by kernel_rfl) rfl rfl ⟨(blk_cell BK396.out 0).trans rfl, (blk_cell BK396.out 1).trans rfl, (blk_cell BK396.out 2).trans rfl, (blk_cell BK396.out 3).trans rfl, (blk_cell BK396.out 4).trans rfl, (blk_cell BK396.out 5).trans rfl, (blk_cell BK399.out 0).trans rfl, (blk_cell BK399.out 1).trans rfl⟩ (fun hHeld => ?_); refine with_tabW impl_CountPairFits.tab7 impl_CountPairFits.bits7 (fun HT_ HW_ => ?_)
      generalize wr.drew = w25 at BK396 BK399 HB hHeld ⊢
      refine xP 0 33 x10a1 ?_
      refine xP 4 37 x10a2 ?_
      refine xT8 hHeld 1 34 x10a3 ?_
      refine xT8 hHeld 2 35 x10a4 ?_
      refine xT8 hHeld 3 36 x10a5 ?_
      refine xU 5 38 x10a6 (fun K hK => ?_)
      refine xY Try.func343 #[.agg #[.int .i64 a0_0, .int .i64 a0_1, .int .i64 a0_2, .int .i64 a0_3, .int .i64 a0_4, .bool a0_5], .agg #[.int .i64 x400000_2, .int .i64 x400001_2], .int .i64 (rd l3 x29_2)] ?_
      with_reducible refine (impl_Second_raw.calls k2 a0_0 a0_1 a0_2 a0_3 a0_4 a0_5 x400000_2 x400001_2 (rd l3 x29_2) t401 _ A21.out).mono ?_
      rintro e w26 ⟨rfl, hb⟩
      refine ⟨_, rfl, ?_⟩
      replace BK396 := xkb BK396 hb
      replace BK399 := xkb BK399 hb
      replace HB := xA (below_step (xB2 GE396.out GE399.out HB.out) hb)
      (try clear hb); (try clear hb2); (try clear hk); (try clear hi)
      refine hK.out _ _ ⟨(blk_cell BK396.out 0).trans rfl, (blk_cell BK396.out 1).trans rfl, (blk_cell BK396.out 2).trans rfl, (blk_cell BK396.out 3).trans rfl, (blk_cell BK396.out 4).trans rfl, (blk_cell BK396.out 5).trans rfl, (blk_cell BK399.out 0).trans rfl, (blk_cell BK399.out 1).trans rfl⟩ (fun hHeld => ?_)
      clear hK K
      refine xN ?_
      refine xU 6 39 x10a7 (fun K hK => ?_)
      refine xY Try.func291 #[.agg #[.int .i64 a0_4, .bool a0_5], .int .i64 t401] ?_
      with_reducible refine (impl_Word_has.calls a0_4 a0_5 t401 true _ A22.out).mono ?_
      rintro e w27 ⟨rfl, hb⟩
      refine ⟨_, rfl, ?_⟩
      replace BK396 := xkb BK396 hb
      replace BK399 := xkb BK399 hb
      replace HB := xA (below_step (xB2 GE396.out GE399.out HB.out) hb)
      (try clear hb); (try clear hb2); (try clear hk); (try clear hi)
      refine hK.out _ _ ⟨(blk_cell BK396.out 0).trans rfl, (blk_cell BK396.out 1).trans rfl, (blk_cell BK396.out 2).trans rfl, (blk_cell BK396.out 3).trans rfl, (blk_cell BK396.out 4).trans rfl, (blk_cell BK396.out 5).trans rfl, (blk_cell BK399.out 0).trans rfl, (blk_cell BK399.out 1).trans rfl⟩ (fun hHeld => ?_)
      clear hK K
      refine xN ?_
      refine xP 7 40 x10a8 ?_
      refine xDn ?_
      have hnb28 := NB396_399.out
      have hnc28 := NB399_396.out
      replace hz396 := blk_cell BK396.out; replace hy396 := blk_frozen BK396.out
      replace hz399 := blk_cell BK399.out; replace hy399 := blk_frozen BK399.out
      try go_wp2_with (first | (refine xG (some 46) Try.func337 #[.agg #[.int .i64 a0_0, .int .i64 a0_1, .int .i64 a0_2, .int .i64 a0_3, .int .i64 a0_4, .bool a0_5], .agg #[.int .i64 x400000_2, .int .i64 x400001_2], .int .i64 (rd l3 x29_2)] ?_; (with_reducible refine (impl_Second_step.calls k2 a0_0 a0_1 a0_2 a0_3 a0_4 a0_5 x400000_2 x400001_2 (rd l3 x29_2) t403 t404 _ A24.out).mono ?_); rintro e w31 ⟨rfl, hb⟩; refine ⟨_, rfl, ?_⟩; replace BK396 := xkb BK396 hb; replace BK399 := xkb BK399 hb; replace HB := xA (below_step (xB2 GE396.out GE399.out HB.out) hb); (try clear hb); replace hz399 := blk_cell BK399.out; replace hy399 := blk_frozen BK399.out))
      go_roundg k2
      case measure => have := HJ4.out; have := HK2.out; omega
      case rel => exact ⟨(x10_2), (wrap64 (x29_2 + 1)), (t403), (t404), xs, xs, H', ⟨by have := HJ4.out; have := HK2.out; omega⟩, ⟨by (with_reducible repeat (first | refine blk_drewN ?_ _ | refine blk_drew ?_ | refine blk_alloc ?_ _)); refine blk_far ?_ NB396_399.out _; (with_reducible repeat (first | refine blk_drewN ?_ _ | refine blk_drew ?_ | refine blk_alloc ?_ _)); refine blk_far ?_ NB396_399.out _; (with_reducible repeat (first | refine blk_drewN ?_ _ | refine blk_drew ?_ | refine blk_alloc ?_ _)); exact BK396.out⟩, ⟨by (with_reducible repeat (first | refine blk_drewN ?_ _ | refine blk_drew ?_ | refine blk_alloc ?_ _)); refine blk_put (cs := #[.int .i64 t403, .int .i64 x400001_2]) ?_ 1 _ rfl; (with_reducible repeat (first | refine blk_drewN ?_ _ | refine blk_drew ?_ | refine blk_alloc ?_ _)); refine blk_put (cs := #[.int .i64 x400000_2, .int .i64 x400001_2]) ?_ 0 _ rfl; (with_reducible repeat (first | refine blk_drewN ?_ _ | refine blk_drew ?_ | refine blk_alloc ?_ _)); exact BK399.out⟩, ⟨xB2 GE396.out GE399.out HB.out⟩⟩
     replace c23 := Bool.eq_false_iff.mpr c23
     subst c23
     rw [if_neg (show ¬ (false = true) by decide)] at H
     replace H := Option.bind_eq_some_iff.mp H
     obtain ⟨⟨t405, t406⟩, A330, H⟩ := H
     (try dsimp only at H)
     have A33 := xA A330
     clear A330
     have H' := xA H
     clear H
     have p400 : 0 ≤ (x29_2 : Int) := of_decide_eq_true (by first | (with_reducible assumption) | assumption)
     have q400 : x29_2 < (l3.length : Int) := of_decide_eq_true (by first | (with_reducible assumption) | assumption)
     obtain ⟨ad400, e400, hx400_0⟩ := Kd.at_int HR3.out x29_2 p400 q400
     cases e400
     replace hx400_0 := (HB.out.cell (World.block_lt_of_cell? w _ hx400_0)).trans hx400_0
     replace p400 := eq_true p400
     replace q400 := eq_true q400
     try go_wp2
     replace BK396 := xA (blk_drew BK396.out)
     replace BK399 := xA (blk_drew BK399.out)
     replace HB := xA (below_drew1 HB.out)
     refine start_ (n := 8) (S := fun w' => w'.cell? ⟨gb396, 0, none⟩ = some (.int .i64 a0_0) ∧ w'.cell? ⟨gb396, 1, none⟩ = some (.int .i64 a0_1) ∧ w'.cell? ⟨gb396, 2, none⟩ = some (.int .i64 a0_2) ∧ w'.cell? ⟨gb396, 3, none⟩ = some (.int .i64 a0_3) ∧ w'.cell? ⟨gb396, 4, none⟩ = some (.int .i64 a0_4) ∧ w'.cell? ⟨gb396, 5, none⟩ = some (.bool a0_5) ∧ w'.cell? ⟨gb399, 0, none⟩ = some (.int .i64 x400000_2) ∧ w'.cell? ⟨gb399, 1, none⟩ = some (.int .i64 x400001_2)) (ds := []) x10a0 (by kernel_rfl) rfl rfl ⟨(blk_cell BK396.out 0).trans rfl, (blk_cell BK396.out 1).trans rfl, (blk_cell BK396.out 2).trans rfl, (blk_cell BK396.out 3).trans rfl, (blk_cell BK396.out 4).trans rfl, (blk_cell BK396.out 5).trans rfl, (blk_cell BK399.out 0).trans rfl, (blk_cell BK399.out 1).trans rfl⟩ (fun hHeld => ?_); refine with_tabW impl_CountPairFits.tab7 impl_CountPairFits.bits7 (fun HT_ HW_ => ?_)
     generalize wr.drew = w34 at BK396 BK399 HB hHeld ⊢
     refine xP 0 33 x10a1 ?_
     refine xP 4 37 x10a2 ?_
     refine xT8 hHeld 1 34 x10a3 ?_
     refine xT8 hHeld 2 35 x10a4 ?_
     refine xT8 hHeld 3 36 x10a5 ?_
     refine xU 5 38 x10a6 (fun K hK => ?_)
     refine xY Try.func343 #[.agg #[.int .i64 a0_0, .int .i64 a0_1, .int .i64 a0_2, .int .i64 a0_3, .int .i64 a0_4, .bool a0_5], .agg #[.int .i64 x400000_2, .int .i64 x400001_2], .int .i64 (rd l3 x29_2)] ?_
     with_reducible refine (impl_Second_raw.calls k2 a0_0 a0_1 a0_2 a0_3 a0_4 a0_5 x400000_2 x400001_2 (rd l3 x29_2) t401 _ A21.out).mono ?_
     rintro e w35 ⟨rfl, hb⟩
     refine ⟨_, rfl, ?_⟩
     replace BK396 := xkb BK396 hb
     replace BK399 := xkb BK399 hb
     replace HB := xA (below_step (xB2 GE396.out GE399.out HB.out) hb)
     (try clear hb); (try clear hb2); (try clear hk); (try clear hi)
     refine hK.out _ _ ⟨(blk_cell BK396.out 0).trans rfl, (blk_cell BK396.out 1).trans rfl, (blk_cell BK396.out 2).trans rfl, (blk_cell BK396.out 3).trans rfl, (blk_cell BK396.out 4).trans rfl, (blk_cell BK396.out 5).trans rfl, (blk_cell BK399.out 0).trans rfl, (blk_cell BK399.out 1).trans rfl⟩ (fun hHeld => ?_)
     clear hK K
     refine xN ?_
     refine xU 6 39 x10a7 (fun K hK => ?_)
     refine xY Try.func291 #[.agg #[.int .i64 a0_4, .bool a0_5], .int .i64 t401] ?_
     with_reducible refine (impl_Word_has.calls a0_4 a0_5 t401 false _ A22.out).mono ?_
     rintro e w36 ⟨rfl, hb⟩
     refine ⟨_, rfl, ?_⟩
     replace BK396 := xkb BK396 hb
     replace BK399 := xkb BK399 hb
     replace HB := xA (below_step (xB2 GE396.out GE399.out HB.out) hb)
     (try clear hb); (try clear hb2); (try clear hk); (try clear hi)
     refine hK.out _ _ ⟨(blk_cell BK396.out 0).trans rfl, (blk_cell BK396.out 1).trans rfl, (blk_cell BK396.out 2).trans rfl, (blk_cell BK396.out 3).trans rfl, (blk_cell BK396.out 4).trans rfl, (blk_cell BK396.out 5).trans rfl, (blk_cell BK399.out 0).trans rfl, (blk_cell BK399.out 1).trans rfl⟩ (fun hHeld => ?_)
     clear hK K
     refine xN ?_
     refine xP 7 40 x10a8 ?_
     refine xDn ?_
     have hnb37 := NB396_399.out
     have hnc37 := NB399_396.out
     replace hz396 := blk_cell BK396.out; replace hy396 := blk_frozen BK396.out
     replace hz399 := blk_cell BK399.out; replace hy399 := blk_frozen BK399.out
     try go_wp2_with (first | (refine xG (some 46) Try.func337 #[.agg #[.int .i64 a0_0, .int .i64 a0_1, .int .i64 a0_2, .int .i64 a0_3, .int .i64 a0_4, .bool a0_5], .agg #[.int .i64 x400000_2, .int .i64 x400001_2], .int .i64 (rd l3 x29_2)] ?_; (with_reducible refine (impl_Second_step.calls k2 a0_0 a0_1 a0_2 a0_3 a0_4 a0_5 x400000_2 x400001_2 (rd l3 x29_2) t405 t406 _ A33.out).mono ?_); rintro e w40 ⟨rfl, hb⟩; refine ⟨_, rfl, ?_⟩; replace BK396 := xkb BK396 hb; replace BK399 := xkb BK399 hb; replace HB := xA (below_step (xB2 GE396.out GE399.out HB.out) hb); (try clear hb); replace hz399 := blk_cell BK399.out; replace hy399 := blk_frozen BK399.out))
     go_roundg k2
     case measure => have := HJ4.out; have := HK2.out; omega
     case rel => exact ⟨(wrap64 (x10_2 + 1)), (wrap64 (x29_2 + 1)), (t405), (t406), xs, xs, H', ⟨by have := HJ4.out; have := HK2.out; omega⟩, ⟨by (with_reducible repeat (first | refine blk_drewN ?_ _ | refine blk_drew ?_ | refine blk_alloc ?_ _)); refine blk_far ?_ NB396_399.out _; (with_reducible repeat (first | refine blk_drewN ?_ _ | refine blk_drew ?_ | refine blk_alloc ?_ _)); refine blk_far ?_ NB396_399.out _; (with_reducible repeat (first | refine blk_drewN ?_ _ | refine blk_drew ?_ | refine blk_alloc ?_ _)); exact BK396.out⟩, ⟨by (with_reducible repeat (first | refine blk_drewN ?_ _ | refine blk_drew ?_ | refine blk_alloc ?_ _)); refine blk_put (cs := #[.int .i64 t405, .int .i64 x400001_2]) ?_ 1 _ rfl; (with_reducible repeat (first | refine blk_drewN ?_ _ | refine blk_drew ?_ | refine blk_alloc ?_ _)); refine blk_put (cs := #[.int .i64 x400000_2, .int .i64 x400001_2]) ?_ 0 _ rfl; (with_reducible repeat (first | refine blk_drewN ?_ _ | refine blk_drew ?_ | refine blk_alloc ?_ _)); exact BK399.out⟩, ⟨xB2 GE396.out GE399.out HB.out⟩⟩
/-! ### spec_CountPairFits: function 143 -/
def spec_CountPairFits.f (k : Nat) (a0_0 : Int) (a0_1 : Int) (a0_2 : Int) (a0_3 : Int) (a0_4 : Int) (a0_5 : Bool) (a1 : Int) (a2 : Int) (l3 : List Int) : Option (Int × Bool) := (spec_sdAsked.f a0_0 a0_1 a0_2 a0_3 a0_4 a0_5 a1 a2 0).bind fun t408 => (if t408 = true then ((spec_wdSignal.f k l3).bind fun t409 => (if t409 = true then ((spec_sdRun.f k a0_0 a0_1 a0_2 a0_3 a0_4 a0_5 a1 a2 l3).bind fun bt410 => (some (bt410.2, true))) else (some (0, false)))) else (some (0, false)))
theorem spec_CountPairFits.mono : ∀ a0 a1 a2 a3 a4 a5 a6 a7 a8 k, LeO (spec_CountPairFits.f k a0 a1 a2 a3 a4 a5 a6 a7 a8) (spec_CountPairFits.f (k + 1) a0 a1 a2 a3 a4 a5 a6 a7 a8) := by
 intro a0 a1 a2 a3 a4 a5 a6 a7 a8 k
 have m0 := @spec_sdRun.mono
 have m1 := @spec_wdSignal.mono
 unfold spec_CountPairFits.f
 exact xM
set_option maxHeartbeats 200000000 in
set_option maxRecDepth 100000 in
theorem spec_CountPairFits.calls (k : Nat) (a0_0 : Int) (a0_1 : Int) (a0_2 : Int) (a0_3 : Int) (a0_4 : Int) (a0_5 : Bool) (a1 : Int) (a2 : Int) (A3 : Option Addr) (c3 : Nat) (l3 : List Int) (r1 : Int) (r2 : Bool) (w : World) (hr3 : Kd.C (Kd.int .i64) w A3 l3.length l3) (hc3 : l3.length ≤ c3) (h : spec_CountPairFits.f k a0_0 a0_1 a0_2 a0_3 a0_4 a0_5 a1 a2 l3 = some (r1, r2)) :
  Calls Try.prog 143 #[.agg #[.int .i64 a0_0, .int .i64 a0_1, .int .i64 a0_2, .int .i64 a0_3, .int .i64 a0_4, .bool a0_5], .int .i64 a1, .int .i64 a2, .slice A3 l3.length c3] w fun e w' => e = .returned (.tuple #[.int .i64 r1, .bool r2]) ∧ Below w.heap.size w w' := by
 have hu91 := Try.underlying91
 have HR3 := xA hr3
 have HC3 := xA hc3
 clear hr3 hc3
 have HB := xA (Below.refl w.heap.size w)
 have H : ((spec_sdAsked.f a0_0 a0_1 a0_2 a0_3 a0_4 a0_5 a1 a2 0).bind fun t408 => (if t408 = true then ((spec_wdSignal.f k l3).bind fun t409 => (if t409 = true then ((spec_sdRun.f k a0_0 a0_1 a0_2 a0_3 a0_4 a0_5 a1 a2 l3).bind fun bt410 => (some (bt410.2, true))) else (some (0, false)))) else (some (0, false)))) = some (r1, r2) := h
 clear h
 obtain ⟨t408, A5, H⟩ := xO H
 (try dsimp only at H)
 by_cases c6 : t408 = true
 rotate_left
 ·replace c6 := Bool.eq_false_iff.mpr c6
  subst c6
  rw [if_neg (show ¬ (false = true) by decide)] at H
  simp only [Option.some.injEq, Prod.mk.injEq] at H
  obtain ⟨rfl, rfl⟩ := H
  go_enter Try.func143, Try.ntmps143
  go_wp2_with (first | (refine xg 4 rfl ?_; refine xV 4 #[.int .i64 a0_0, .int .i64 a0_1, .int .i64 a0_2, .int .i64 a0_3, .int .i64 a0_4, .bool a0_5] 91 ?_; intro gb407 hg w18 hbox hb; have BK407 := xA (hbox); have GW407 := xgw hg (below_size (xB HB.out)); have GE407 := GW407; replace HB := xA (below_step (xB HB.out) hb); clear hb hbox hg; obtain ⟨hcz19_0, hcz19_1, hcz19_2, hcz19_3, hcz19_4, hcz19_5, hfz19_0, hfz19_1, hfz19_2, hfz19_3, hfz19_4, hfz19_5⟩ := xZ6 BK407.out) | (refine xG (some 15) Try.func338 #[.agg #[.int .i64 a0_0, .int .i64 a0_1, .int .i64 a0_2, .int .i64 a0_3, .int .i64 a0_4, .bool a0_5], .int .i64 a1, .int .i64 a2, .int .i64 0] ?_; (with_reducible refine (spec_sdAsked.calls a0_0 a0_1 a0_2 a0_3 a0_4 a0_5 a1 a2 0 false _ A5.out).mono ?_); rintro e w20 ⟨rfl, hb⟩; refine ⟨_, rfl, ?_⟩; replace BK407 := xkb BK407 hb; replace HB := xA (below_step (xB1 GE407.out HB.out) hb); (try clear hb)))
  go_ret2
  exact ⟨xr, xB1 GE407.out HB.out⟩

 subst c6
 rw [if_pos rfl] at H
 obtain ⟨t409, A7, H⟩ := xO H
 (try dsimp only at H)
 by_cases c8 : t409 = true
 rotate_left
 ·replace c8 := Bool.eq_false_iff.mpr c8
  subst c8
  rw [if_neg (show ¬ (false = true) by decide)] at H
  simp only [Option.some.injEq, Prod.mk.injEq] at H
  obtain ⟨rfl, rfl⟩ := H
  go_enter Try.func143, Try.ntmps143
  go_wp2_with (first | (refine xg 4 rfl ?_; refine xV 4 #[.int .i64 a0_0, .int .i64 a0_1, .int .i64 a0_2, .int .i64 a0_3, .int .i64 a0_4, .bool a0_5] 91 ?_; intro gb407 hg w15 hbox hb; have BK407 := xA (hbox); have GW407 := xgw hg (below_size (xB HB.out)); have GE407 := GW407; replace HB := xA (below_step (xB HB.out) hb); clear hb hbox hg; obtain ⟨hcz16_0, hcz16_1, hcz16_2, hcz16_3, hcz16_4, hcz16_5, hfz16_0, hfz16_1, hfz16_2, hfz16_3, hfz16_4, hfz16_5⟩ := xZ6 BK407.out) | (refine xG (some 15) Try.func338 #[.agg #[.int .i64 a0_0, .int .i64 a0_1, .int .i64 a0_2, .int .i64 a0_3, .int .i64 a0_4, .bool a0_5], .int .i64 a1, .int .i64 a2, .int .i64 0] ?_; (with_reducible refine (spec_sdAsked.calls a0_0 a0_1 a0_2 a0_3 a0_4 a0_5 a1 a2 0 true _ A5.out).mono ?_); rintro e w17 ⟨rfl, hb⟩; refine ⟨_, rfl, ?_⟩; replace BK407 := xkb BK407 hb; replace HB := xA (below_step (xB1 GE407.out HB.out) hb); (try clear hb)) | (go_at_call 236; (with_reducible refine (spec_wdSignal.calls k _ _ l3 false _ ?side1 ?side2 A7.out).mono ?_); (case side1 => exact xC (Kd.C_below HR3.out HB.out)); (case side2 => exact HC3.out); rintro e w' ⟨rfl, ⟨nd, rfl⟩⟩))
  go_ret2
  exact ⟨xr, xB1 GE407.out HB.out⟩
 subst c8
 rw [if_pos rfl] at H
 replace H := Option.bind_eq_some_iff.mp H
 obtain ⟨⟨t410, t413⟩, A90, H⟩ := H
 (try dsimp only at H)
 have A9 := xA A90
 clear A90
 simp only [Option.some.injEq, Prod.mk.injEq] at H
 obtain ⟨rfl, rfl⟩ := H
 go_enter Try.func143, Try.ntmps143
 go_wp2_with (first | (refine xq rfl ?_; first | (refine xG (some 15) Try.func338 #[.agg #[.int .i64 a0_0, .int .i64 a0_1, .int .i64 a0_2, .int .i64 a0_3, .int .i64 a0_4, .bool a0_5], .int .i64 a1, .int .i64 a2, .int .i64 0] ?_; (with_reducible refine (spec_sdAsked.calls a0_0 a0_1 a0_2 a0_3 a0_4 a0_5 a1 a2 0 true _ A5.out).mono ?_); rintro e w12 ⟨rfl, hb⟩; refine ⟨_, rfl, ?_⟩; replace BK407 := xkb BK407 hb; replace HB := xA (below_step (xB1 GE407.out HB.out) hb); (try clear hb)) | (refine xG (some 27) Try.func339 #[.agg #[.int .i64 a0_0, .int .i64 a0_1, .int .i64 a0_2, .int .i64 a0_3, .int .i64 a0_4, .bool a0_5], .int .i64 a1, .int .i64 a2, .slice A3 l3.length c3] ?_; (with_reducible refine (spec_sdRun.calls k a0_0 a0_1 a0_2 a0_3 a0_4 a0_5 a1 a2 _ _ l3 t410 t413 _ ?side1 ?side2 A9.out).mono ?_); (case side1 => repeat (first | exact (Kd.C_below HR3.out (xB1 GE407.out HB.out)) | (with_reducible refine Kd.C_alloc ?_ _) | (with_reducible refine Kd.C_drewN ?_ _) | (with_reducible refine Kd.C_drew ?_))); (case side2 => exact HC3.out); rintro e w14 ⟨v411, rfl, ho0, hb⟩; refine ⟨_, rfl, ?_⟩; have HO412 := xA (Kd.R_lower ho0 (below_size (xB1 GE407.out HB.out))); replace BK407 := xkb BK407 hb; replace HB := xA (below_step (xB1 GE407.out HB.out) hb); (try clear hb); (try clear ho0))) | (refine xg 4 rfl ?_; refine xV 4 #[.int .i64 a0_0, .int .i64 a0_1, .int .i64 a0_2, .int .i64 a0_3, .int .i64 a0_4, .bool a0_5] 91 ?_; intro gb407 hg w10 hbox hb; have BK407 := xA (hbox); have GW407 := xgw hg (below_size (xB HB.out)); have GE407 := GW407; replace HB := xA (below_step (xB HB.out) hb); clear hb hbox hg; obtain ⟨hcz11_0, hcz11_1, hcz11_2, hcz11_3, hcz11_4, hcz11_5, hfz11_0, hfz11_1, hfz11_2, hfz11_3, hfz11_4, hfz11_5⟩ := xZ6 BK407.out) | (go_at_call 236; (with_reducible refine (spec_wdSignal.calls k _ _ l3 true _ ?side1 ?side2 A7.out).mono ?_); (case side1 => exact xC (Kd.C_below HR3.out HB.out)); (case side2 => exact HC3.out); rintro e w' ⟨rfl, ⟨nd, rfl⟩⟩; obtain ⟨hcz13_0, hcz13_1, hcz13_2, hcz13_3, hcz13_4, hcz13_5, hfz13_0, hfz13_1, hfz13_2, hfz13_3, hfz13_4, hfz13_5⟩ := xZ6 BK407.out))
 go_ret2
 exact ⟨xr, xB1 GE407.out HB.out⟩
/-! ### impl_isSample: function 300 -/
def impl_isSample.f (a0 : Int) : Option (Bool) := (impl_in.f a0 (-100000) 100000).bind fun t414 => (some t414)
set_option maxHeartbeats 200000000 in
set_option maxRecDepth 100000 in
theorem impl_isSample.calls (a0 : Int) (r : Bool) (w : World) (h : impl_isSample.f a0 = some r) :
  Calls Try.prog 300 #[.int .i64 a0] w fun e w' => e = .returned (.bool r) ∧ Drawn0 w w' := by
 have H : ((impl_in.f a0 (-100000) 100000).bind fun t414 => (some t414)) = some r := h
 clear h
 obtain ⟨t414, A2, H⟩ := xO H
 (try dsimp only at H)
 obtain rfl := Option.some.inj H
 go_enter Try.func300, Try.ntmps300
 go_wp2_with (first | (refine xG (some 4) Try.func223 #[.int .i64 a0, .int .i64 (-100000), .int .i64 100000] ?_; (with_reducible refine (impl_in.calls a0 (-100000) 100000 t414 _ A2.out).mono ?_); rintro e w' ⟨rfl, ⟨nd, rfl⟩⟩; refine ⟨_, rfl, ?_⟩))
 go_ret
 exact ⟨by first | rfl | (simp; done) | (simp [*]; done), by repeat (first | exact Drawn0.refl _ | apply Drawn0.step)⟩

/-! ### impl_SecondStep: function 144 -/
def impl_SecondStep.f (k : Nat) (a0_0 : Int) (a0_1 : Int) (a0_2 : Int) (a0_3 : Int) (a0_4 : Int) (a0_5 : Bool) (a1 : Int) (a2 : Int) (a3 : Int) : Option (Int × Bool) := (impl_Second_isAt.f a0_0 a0_1 a0_2 a0_3 a0_4 a0_5 a1 a2).bind fun t416 => (if t416 = true then ((impl_isSample.f a3).bind fun t417 => (if t417 = true then ((impl_Second_step.f k a0_0 a0_1 a0_2 a0_3 a0_4 a0_5 a1 a2 a3).bind fun bt418 => (some (bt418.1, true))) else (some (0, false)))) else (some (0, false)))
theorem impl_SecondStep.mono : ∀ a0 a1 a2 a3 a4 a5 a6 a7 a8 k, LeO (impl_SecondStep.f k a0 a1 a2 a3 a4 a5 a6 a7 a8) (impl_SecondStep.f (k + 1) a0 a1 a2 a3 a4 a5 a6 a7 a8) := by
 intro a0 a1 a2 a3 a4 a5 a6 a7 a8 k
 have m0 := @impl_Second_step.mono
 unfold impl_SecondStep.f
 exact xM
set_option maxHeartbeats 200000000 in
set_option maxRecDepth 100000 in
theorem impl_SecondStep.calls (k : Nat) (a0_0 : Int) (a0_1 : Int) (a0_2 : Int) (a0_3 : Int) (a0_4 : Int) (a0_5 : Bool) (a1 : Int) (a2 : Int) (a3 : Int) (r1 : Int) (r2 : Bool) (w : World) (h : impl_SecondStep.f k a0_0 a0_1 a0_2 a0_3 a0_4 a0_5 a1 a2 a3 = some (r1, r2)) :
  Calls Try.prog 144 #[.agg #[.int .i64 a0_0, .int .i64 a0_1, .int .i64 a0_2, .int .i64 a0_3, .int .i64 a0_4, .bool a0_5], .int .i64 a1, .int .i64 a2, .int .i64 a3] w fun e w' => e = .returned (.tuple #[.int .i64 r1, .bool r2]) ∧ Below w.heap.size w w' := by
 have hu91 := Try.underlying91
 have hu180 := Try.underlying180
 have HB := xA (Below.refl w.heap.size w)
 have H : ((impl_Second_isAt.f a0_0 a0_1 a0_2 a0_3 a0_4 a0_5 a1 a2).bind fun t416 => (if t416 = true then ((impl_isSample.f a3).bind fun t417 => (if t417 = true then ((impl_Second_step.f k a0_0 a0_1 a0_2 a0_3 a0_4 a0_5 a1 a2 a3).bind fun bt418 => (some (bt418.1, true))) else (some (0, false)))) else (some (0, false)))) = some (r1, r2) := h
 clear h
 obtain ⟨t416, A5, H⟩ := xO H
 (try dsimp only at H)
 by_cases c6 : t416 = true
 rotate_left
 ·replace c6 := Bool.eq_false_iff.mpr c6
  subst c6
  rw [if_neg (show ¬ (false = true) by decide)] at H
  simp only [Option.some.injEq, Prod.mk.injEq] at H
  obtain ⟨rfl, rfl⟩ := H
  go_enter Try.func144, Try.ntmps144
  go_wp2_with (first | (refine xg 4 rfl ?_; refine xV 4 #[.int .i64 a0_0, .int .i64 a0_1, .int .i64 a0_2, .int .i64 a0_3, .int .i64 a0_4, .bool a0_5] 91 ?_; intro gb415 hg w18 hbox hb; have BK415 := xA (hbox); have GW415 := xgw hg (below_size (xB HB.out)); have GE415 := GW415; replace HB := xA (below_step (xB HB.out) hb); clear hb hbox hg; obtain ⟨hcz19_0, hcz19_1, hcz19_2, hcz19_3, hcz19_4, hcz19_5, hfz19_0, hfz19_1, hfz19_2, hfz19_3, hfz19_4, hfz19_5⟩ := xZ6 BK415.out) | (refine xG (some 13) Try.func336 #[.agg #[.int .i64 a0_0, .int .i64 a0_1, .int .i64 a0_2, .int .i64 a0_3, .int .i64 a0_4, .bool a0_5], .int .i64 a1, .int .i64 a2] ?_; (with_reducible refine (impl_Second_isAt.calls a0_0 a0_1 a0_2 a0_3 a0_4 a0_5 a1 a2 false _ A5.out).mono ?_); rintro e w20 ⟨rfl, hb⟩; refine ⟨_, rfl, ?_⟩; replace BK415 := xkb BK415 hb; replace HB := xA (below_step (xB1 GE415.out HB.out) hb); (try clear hb)))
  go_ret2
  exact ⟨xr, xB1 GE415.out HB.out⟩

 subst c6
 rw [if_pos rfl] at H
 obtain ⟨t417, A7, H⟩ := xO H
 (try dsimp only at H)
 by_cases c8 : t417 = true
 rotate_left
 ·replace c8 := Bool.eq_false_iff.mpr c8
  subst c8
  rw [if_neg (show ¬ (false = true) by decide)] at H
  simp only [Option.some.injEq, Prod.mk.injEq] at H
  obtain ⟨rfl, rfl⟩ := H
  go_enter Try.func144, Try.ntmps144
  go_wp2_with (first | (refine xg 4 rfl ?_; refine xV 4 #[.int .i64 a0_0, .int .i64 a0_1, .int .i64 a0_2, .int .i64 a0_3, .int .i64 a0_4, .bool a0_5] 91 ?_; intro gb415 hg w15 hbox hb; have BK415 := xA (hbox); have GW415 := xgw hg (below_size (xB HB.out)); have GE415 := GW415; replace HB := xA (below_step (xB HB.out) hb); clear hb hbox hg; obtain ⟨hcz16_0, hcz16_1, hcz16_2, hcz16_3, hcz16_4, hcz16_5, hfz16_0, hfz16_1, hfz16_2, hfz16_3, hfz16_4, hfz16_5⟩ := xZ6 BK415.out) | (refine xG (some 13) Try.func336 #[.agg #[.int .i64 a0_0, .int .i64 a0_1, .int .i64 a0_2, .int .i64 a0_3, .int .i64 a0_4, .bool a0_5], .int .i64 a1, .int .i64 a2] ?_; (with_reducible refine (impl_Second_isAt.calls a0_0 a0_1 a0_2 a0_3 a0_4 a0_5 a1 a2 true _ A5.out).mono ?_); rintro e w17 ⟨rfl, hb⟩; refine ⟨_, rfl, ?_⟩; replace BK415 := xkb BK415 hb; replace HB := xA (below_step (xB1 GE415.out HB.out) hb); (try clear hb)) | (go_at_call 300; (with_reducible refine (impl_isSample.calls a3 false _ A7.out).mono ?_); rintro e w' ⟨rfl, ⟨nd, rfl⟩⟩))
  go_ret2
  exact ⟨xr, xB1 GE415.out HB.out⟩
 subst c8
 rw [if_pos rfl] at H
 replace H := Option.bind_eq_some_iff.mp H
 obtain ⟨⟨t418, t419⟩, A90, H⟩ := H
 (try dsimp only at H)
 have A9 := xA A90
 clear A90
 simp only [Option.some.injEq, Prod.mk.injEq] at H
 obtain ⟨rfl, rfl⟩ := H
 have hfd : ∀ (u_ v_ : Int) (w_ : World), (Instr.field 180 (.agg #[.int .i64 u_, .int .i64 v_]) 0).run Try.prog w_ = .ok (.int .i64 u_) w_ := fun _ _ _ => by kernel_rfl
 go_enter Try.func144, Try.ntmps144
 go_wp2_with (first | (refine xq rfl ?_; first | (refine xG (some 13) Try.func336 #[.agg #[.int .i64 a0_0, .int .i64 a0_1, .int .i64 a0_2, .int .i64 a0_3, .int .i64 a0_4, .bool a0_5], .int .i64 a1, .int .i64 a2] ?_; (with_reducible refine (impl_Second_isAt.calls a0_0 a0_1 a0_2 a0_3 a0_4 a0_5 a1 a2 true _ A5.out).mono ?_); rintro e w12 ⟨rfl, hb⟩; refine ⟨_, rfl, ?_⟩; replace BK415 := xkb BK415 hb; replace HB := xA (below_step (xB1 GE415.out HB.out) hb); (try clear hb)) | (refine xG (some 25) Try.func337 #[.agg #[.int .i64 a0_0, .int .i64 a0_1, .int .i64 a0_2, .int .i64 a0_3, .int .i64 a0_4, .bool a0_5], .agg #[.int .i64 a1, .int .i64 a2], .int .i64 a3] ?_; (with_reducible refine (impl_Second_step.calls k a0_0 a0_1 a0_2 a0_3 a0_4 a0_5 a1 a2 a3 t418 t419 _ A9.out).mono ?_); rintro e w14 ⟨rfl, hb⟩; refine ⟨_, rfl, ?_⟩; replace BK415 := xkb BK415 hb; replace HB := xA (below_step (xB1 GE415.out HB.out) hb); (try clear hb))) | (refine xg 4 rfl ?_; refine xV 4 #[.int .i64 a0_0, .int .i64 a0_1, .int .i64 a0_2, .int .i64 a0_3, .int .i64 a0_4, .bool a0_5] 91 ?_; intro gb415 hg w10 hbox hb; have BK415 := xA (hbox); have GW415 := xgw hg (below_size (xB HB.out)); have GE415 := GW415; replace HB := xA (below_step (xB HB.out) hb); clear hb hbox hg; obtain ⟨hcz11_0, hcz11_1, hcz11_2, hcz11_3, hcz11_4, hcz11_5, hfz11_0, hfz11_1, hfz11_2, hfz11_3, hfz11_4, hfz11_5⟩ := xZ6 BK415.out) | (go_at_call 300; (with_reducible refine (impl_isSample.calls a3 true _ A7.out).mono ?_); rintro e w' ⟨rfl, ⟨nd, rfl⟩⟩; obtain ⟨hcz13_0, hcz13_1, hcz13_2, hcz13_3, hcz13_4, hcz13_5, hfz13_0, hfz13_1, hfz13_2, hfz13_3, hfz13_4, hfz13_5⟩ := xZ6 BK415.out))
 go_ret2
 exact ⟨xr, xB1 GE415.out HB.out⟩
end Go.Proofs.Ytjplcongellcmaa.PFnPairsRun
