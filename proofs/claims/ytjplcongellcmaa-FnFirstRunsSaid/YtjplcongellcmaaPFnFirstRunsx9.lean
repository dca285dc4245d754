/- What each Go function that the statement FnFirstRuns reaches answers, proved call by call. No condition beyond those that the theorems print. (Written by wip/tools/xprint.py of this repo, over the kit's print.) -/
import Derived.Test.YtjplcongellcmaaPFnFirstRunsx0
import Derived.Test.YtjplcongellcmaaPFnFirstRunsx5
import Derived.Test.YtjplcongellcmaaPFnFirstRunsx6
import Derived.Test.YtjplcongellcmaaPFnFirstRunsx7
namespace Go.Proofs.Ytjplcongellcmaa.PFnFirstRuns
open Go.RowKit Go.Proofs.YtjplcongellcmaaW.PrintWords Go.Proofs.YtjplcongellcmaaW.PrintLast Go.Proofs.YtjplcongellcmaaW.PrintMore
attribute [local go_sem] max2_int min2_int max_two min_two max_three min_three max_four min_four   -- for this text's walks alone
set_option linter.unusedVariables false
set_option linter.unusedSimpArgs false
def x9a0 : Array Bool := #[Zz,Zz,Zz,Zz,Zz,Zz,Zz,Zz]
def x9a1 : Array Bool := #[Yy,Zz,Zz,Zz,Zz,Zz,Zz,Zz]
def x9a2 : Array Bool := #[Yy,Zz,Zz,Yy,Zz,Zz,Zz,Zz]
def x9a3 : Array Bool := #[Yy,Zz,Zz,Yy,Yy,Zz,Zz,Zz]
def x9a4 : Array Bool := #[Yy,Yy,Zz,Yy,Yy,Zz,Zz,Zz]
def x9a5 : Array Bool := #[Yy,Yy,Yy,Yy,Yy,Zz,Zz,Zz]
def x9a6 : Array Bool := #[Yy,Yy,Yy,Yy,Yy,Yy,Zz,Zz]
def x9a7 : Array Bool := #[Yy,Yy,Yy,Yy,Yy,Yy,Yy,Zz]
def x9a8 : Array Bool := #[Yy,Yy,Yy,Yy,Yy,Yy,Yy,Yy]
def x9a9 : Array Bool := #[Yy,Yy,Zz,Yy,Zz,Zz,Zz,Zz]
def x9a10 : Array Bool := #[Yy,Yy,Zz,Yy,Yy,Yy,Zz,Zz]

/-! ### impl_CountFits: function 91 -/
mutual
def impl_CountFits.j0 : Nat → Int → List Int → Bool → Int → Int → Int → Int → Bool → Option (Int × Bool)
 | 0, _, _, _, _, _, _, _, _ => none
 | k + 1, x1, x2, x19, x383000, x383001, x383002, x383003, x383004 => if x19 = true then (some (0, false)) else (impl_CountFits.l0 k x1 0 x2 (x2.length : Int) 0 x383000 x383001 x383002 x383003 x383004)
def impl_CountFits.l0 : Nat → Int → Int → List Int → Int → Int → Int → Int → Int → Int → Bool → Option (Int × Bool)
 | 0, _, _, _, _, _, _, _, _, _, _ => none
 | k + 1, x1, x8, x20, x21, x22, x383000, x383001, x383002, x383003, x383004 => if x22 < x21 then (if 0 ≤ x22 then (if x22 < (x20.length : Int) then ((impl_First_raw.f k x383000 x383001 x383002 x383003 x383004 x1 (rd x20 x22)).bind fun t386 => ((impl_Word_has.f x383003 x383004 t386).bind fun t387 => (if t387 = true then ((impl_First_step.f k x383000 x383001 x383002 x383003 x383004 x1 (rd x20 x22)).bind fun t388 => (impl_CountFits.l0 k t388 x8 x20 x21 (wrap64 (x22 + 1)) x383000 x383001 x383002 x383003 x383004)) else ((impl_First_step.f k x383000 x383001 x383002 x383003 x383004 x1 (rd x20 x22)).bind fun t389 => (impl_CountFits.l0 k t389 (wrap64 (x8 + 1)) x20 x21 (wrap64 (x22 + 1)) x383000 x383001 x383002 x383003 x383004))))) else (none)) else (none)) else (some (x8, true))
end
def impl_CountFits.f (k : Nat) (a0_0 : Int) (a0_1 : Int) (a0_2 : Int) (a0_3 : Int) (a0_4 : Bool) (a1 : Int) (l2 : List Int) : Option (Int × Bool) := (impl_First_isAt.f a0_0 a0_1 a0_2 a0_3 a0_4 a1).bind fun t383 => (if t383 = true then ((impl_isSignal.f k l2).bind fun t384 => (impl_CountFits.j0 k a1 l2 (!t384) a0_0 a0_1 a0_2 a0_3 a0_4)) else (impl_CountFits.j0 k a1 l2 true a0_0 a0_1 a0_2 a0_3 a0_4))
theorem impl_CountFits.mono_l : ∀ k, (∀ y0 y1 y2 y3 y4 y5 y6 y7, LeO (impl_CountFits.j0 k y0 y1 y2 y3 y4 y5 y6 y7) (impl_CountFits.j0 (k + 1) y0 y1 y2 y3 y4 y5 y6 y7)) ∧ (∀ y0 y1 y2 y3 y4 y5 y6 y7 y8 y9, LeO (impl_CountFits.l0 k y0 y1 y2 y3 y4 y5 y6 y7 y8 y9) (impl_CountFits.l0 (k + 1) y0 y1 y2 y3 y4 y5 y6 y7 y8 y9))
 | 0 => ⟨fun _ _ _ _ _ _ _ _ r h => by simp [impl_CountFits.j0] at h, fun _ _ _ _ _ _ _ _ _ _ r h => by simp [impl_CountFits.l0] at h⟩
 | k + 1 => by
  obtain ⟨ih0, ih1⟩ := impl_CountFits.mono_l k
  have m0 := @impl_First_raw.mono
  have m1 := @impl_First_step.mono
  have m2 := @impl_isSignal.mono
  refine ⟨?_, ?_⟩ <;> intros
  ·unfold impl_CountFits.j0; exact xM
  ·unfold impl_CountFits.l0; exact xM
theorem impl_CountFits.mono : ∀ a0 a1 a2 a3 a4 a5 a6 k, LeO (impl_CountFits.f k a0 a1 a2 a3 a4 a5 a6) (impl_CountFits.f (k + 1) a0 a1 a2 a3 a4 a5 a6) := by
 intro a0 a1 a2 a3 a4 a5 a6 k
 obtain ⟨ih0, ih1⟩ := impl_CountFits.mono_l k
 have m0 := @impl_First_raw.mono
 have m1 := @impl_First_step.mono
 have m2 := @impl_isSignal.mono
 unfold impl_CountFits.f
 exact xM
def impl_CountFits.T7 : Bool × List (List Nat × List Nat) := (true, [([], []), ([0], [0]), ([], []), ([], []), ([], []), ([2, 3, 4], [2, 3, 4]), ([1, 5, 5], [1, 5]), ([6], [6])])
def impl_CountFits.B7 : List Nat := [0, 1, 0, 0, 0, 28, 63, 127]
theorem impl_CountFits.tab7 : rtab .any (opsOf Try.f91 7) = impl_CountFits.T7 := by kernel_rfl
theorem impl_CountFits.bits7 : waitsOk impl_CountFits.T7.2 impl_CountFits.B7 = true := by kernel_rfl
set_option maxHeartbeats 200000000 in
set_option maxRecDepth 100000 in
theorem impl_CountFits.calls (k : Nat) (a0_0 : Int) (a0_1 : Int) (a0_2 : Int) (a0_3 : Int) (a0_4 : Bool) (a1 : Int) (A2 : Option Addr) (c2 : Nat) (l2 : List Int) (r1 : Int) (r2 : Bool) (w : World) (hr2 : Kd.C (Kd.int .i64) w A2 l2.length l2) (hc2 : l2.length ≤ c2) (h : impl_CountFits.f k a0_0 a0_1 a0_2 a0_3 a0_4 a1 l2 = some (r1, r2)) :
  Calls Try.prog 91 #[.agg #[.int .i64 a0_0, .int .i64 a0_1, .int .i64 a0_2, .int .i64 a0_3, .bool a0_4], .int .i64 a1, .slice A2 l2.length c2] w fun e w' => e = .returned (.tuple #[.int .i64 r1, .bool r2]) ∧ Below w.heap.size w w' := by
 have hu62 := Try.underlying62
 have hu46 := Try.underlying46
 have HR2 := xA hr2
 have HC2 := xA hc2
 clear hr2 hc2
 have HB := xA (Below.refl w.heap.size w)
 have H : ((impl_First_isAt.f a0_0 a0_1 a0_2 a0_3 a0_4 a1).bind fun t383 => (if t383 = true then ((impl_isSignal.f k l2).bind fun t384 => (impl_CountFits.j0 k a1 l2 (!t384) a0_0 a0_1 a0_2 a0_3 a0_4)) else (impl_CountFits.j0 k a1 l2 true a0_0 a0_1 a0_2 a0_3 a0_4))) = some (r1, r2) := h
 clear h
 have HC4 := xA H
 clear H
 go_enter Try.func91, Try.ntmps91
 go_upto_region 1 with (first | (refine xg 3 rfl ?_; refine xV 3 #[.int .i64 a0_0, .int .i64 a0_1, .int .i64 a0_2, .int .i64 a0_3, .bool a0_4] 62 ?_; intro gb382 hg w5 hbox hb; have BK382 := xA (hbox); have GW382 := xgw hg (below_size (xB HB.out)); have GE382 := GW382; replace HB := xA (below_step (xB HB.out) hb); clear hb hbox hg))
 (try simp only [Act.put, List.setIfInBounds_toArray, List.set_cons_zero, List.set_cons_succ])
 go_cut [19] from 11 to 11 (fun v19 wc => ∃ (kq : Nat) (x19_3 : Bool), v19 = .bool x19_3 ∧ Aside0 (impl_CountFits.j0 kq a1 l2 x19_3 a0_0 a0_1 a0_2 a0_3 a0_4 = some (r1, r2)) ∧ Aside0 (kq ≤ k) ∧ Aside0 (wc.heap[gb382]? = some (.cells #[.int .i64 a0_0, .int .i64 a0_1, .int .i64 a0_2, .int .i64 a0_3, .bool a0_4] 62 (0, 0))) ∧ Aside0 (Below w.heap.size w wc))
 case first => as_aux_lemma =>
  have H := HC4.out
  clear HC4
  obtain ⟨t383, A6, H⟩ := xO H
  (try dsimp only at H)
  by_cases c7 : t383 = true
  rotate_left
  ·replace c7 := Bool.eq_false_iff.mpr c7
   subst c7
   rw [if_neg (show ¬ (false = true) by decide)] at H
   have H' := xA H
   clear H
   replace hz382 := blk_cell BK382.out; replace hy382 := blk_frozen BK382.out
   go_wp2_with (first | (refine xG (some 13) Try.func283 #[.agg #[.int .i64 a0_0, .int .i64 a0_1, .int .i64 a0_2, .int .i64 a0_3, .bool a0_4], .int .i64 a1] ?_; (with_reducible refine (impl_First_isAt.calls a0_0 a0_1 a0_2 a0_3 a0_4 a1 false _ A6.out).mono ?_); rintro e w12 ⟨rfl, hb⟩; refine ⟨_, rfl, ?_⟩; replace BK382 := xkb BK382 hb; replace HB := xA (below_step (xB1 GE382.out HB.out) hb); (try clear hb)))
   go_meet
   case rel => exact ⟨_, (true), xs, H', ⟨by first | omega | exact Nat.le_refl _⟩, ⟨xK BK382.out⟩, ⟨xB1 GE382.out HB.out⟩⟩
  subst c7
  rw [if_pos rfl] at H
  obtain ⟨t384, A8, H⟩ := xO H
  (try dsimp only at H)
  have H' := xA H
  clear H
  replace hz382 := blk_cell BK382.out; replace hy382 := blk_frozen BK382.out
  go_wp2_with (first | (refine xG (some 13) Try.func283 #[.agg #[.int .i64 a0_0, .int .i64 a0_1, .int .i64 a0_2, .int .i64 a0_3, .bool a0_4], .int .i64 a1] ?_; (with_reducible refine (impl_First_isAt.calls a0_0 a0_1 a0_2 a0_3 a0_4 a1 true _ A6.out).mono ?_); rintro e w10 ⟨rfl, hb⟩; refine ⟨_, rfl, ?_⟩; replace BK382 := xkb BK382 hb; replace HB := xA (below_step (xB1 GE382.out HB.out) hb); (try clear hb)) | (go_at_call 233; (with_reducible refine (impl_isSignal.calls k _ _ l2 t384 _ ?side1 ?side2 A8.out).mono ?_); (case side1 => exact xC (Kd.C_below HR2.out HB.out)); (case side2 => exact HC2.out); rintro e w' ⟨rfl, ⟨nd, rfl⟩⟩))
  go_meet
  case rel => exact ⟨_, (!t384), xs, H', ⟨by first | omega | exact Nat.le_refl _⟩, ⟨xK BK382.out⟩, ⟨xB1 GE382.out HB.out⟩⟩
 case rest => as_aux_lemma =>
  clear HC4
  try clear c2
  obtain ⟨kq, x19_3, rfl, HA, HJ3, BK382, HB⟩ := hcut
  cases kq with
  | zero => exact absurd HA.out (by simp [impl_CountFits.j0])
  | succ kj3 =>
   have H := HA.out
   clear HA
   simp only [impl_CountFits.j0] at H
   by_cases c13 : x19_3 = true
   ·subst c13
    rw [if_pos rfl] at H
    simp only [Option.some.injEq, Prod.mk.injEq] at H
    obtain ⟨rfl, rfl⟩ := H
    go_wp2
    go_ret2
    exact ⟨xr, xB1 GE382.out HB.out⟩
   replace c13 := Bool.eq_false_iff.mpr c13
   subst c13
   rw [if_neg (show ¬ (false = true) by decide)] at H
   have H' := xA H
   clear H
   go_wp2
   go_loopg [1, 8, 22] kj3 (fun kq v1 v8 v22 w' => ∃ (x1_2 : Int) (x8_2 : Int) (x22_2 : Int), v1 = .int .i64 x1_2 ∧ v8 = .int .i64 x8_2 ∧ v22 = .int .i64 x22_2 ∧ Aside0 (impl_CountFits.l0 kq x1_2 x8_2 l2 (l2.length : Int) x22_2 a0_0 a0_1 a0_2 a0_3 a0_4 = some (r1, r2)) ∧ Aside0 (kq ≤ kj3) ∧ Aside0 (w'.heap[gb382]? = some (.cells #[.int .i64 a0_0, .int .i64 a0_1, .int .i64 a0_2, .int .i64 a0_3, .bool a0_4] 62 (0, 0))) ∧ Aside0 (Below w.heap.size w w'))
   case atStart => exact ⟨(a1), (0), (0), xs, xs, xs, H', ⟨Nat.le_refl _⟩, ⟨xK BK382.out⟩, ⟨xB1 GE382.out HB.out⟩⟩
   case round =>
    clear H'
    try clear c13
    obtain ⟨x1_2, x8_2, x22_2, rfl, rfl, rfl, HA, HK2, BK382, HB⟩ := hrel
    cases gk with
    | zero => exact absurd HA.out (by simp [impl_CountFits.l0])
    | succ k2 =>
     have H := HA.out
     clear HA
     simp only [impl_CountFits.l0] at H
     by_cases c14 : x22_2 < (l2.length : Int)
     rotate_left
     ·rw [if_neg c14] at H
      have c14b0 : decide (x22_2 < (l2.length : Int)) = false := decide_eq_false c14
      clear c14
      simp only [Option.some.injEq, Prod.mk.injEq] at H
      obtain ⟨rfl, rfl⟩ := H
      go_wp2
      go_ret2
      exact ⟨xr, xB1 GE382.out HB.out⟩

     rw [if_pos c14] at H
     have c14b0 : decide (x22_2 < (l2.length : Int)) = true := decide_eq_true c14
     clear c14
     by_cases c15 : 0 ≤ x22_2
     rotate_left
     ·rw [if_neg c15] at H
      exact absurd H (by simp)
     rw [if_pos c15] at H
     have c15b0 : decide (0 ≤ x22_2) = true := decide_eq_true c15
     clear c15
     by_cases c16 : x22_2 < (l2.length : Int)
     rotate_left
     ·rw [if_neg c16] at H
      exact absurd H (by simp)
     rw [if_pos c16] at H
     have c16b0 : decide (x22_2 < (l2.length : Int)) = true := decide_eq_true c16
     clear c16
     obtain ⟨t386, A17, H⟩ := xO H
     (try dsimp only at H)
     obtain ⟨t387, A18, H⟩ := xO H
     (try dsimp only at H)
     by_cases c19 : t387 = true
     ·subst c19
      rw [if_pos rfl] at H
      obtain ⟨t388, A20, H⟩ := xO H
      (try dsimp only at H)
      have H' := xA H
      clear H
      have p385 : 0 ≤ (x22_2 : Int) := of_decide_eq_true (by first | (with_reducible assumption) | assumption)
      have q385 : x22_2 < (l2.length : Int) := of_decide_eq_true (by first | (with_reducible assumption) | assumption)
      obtain ⟨ad385, e385, hx385_0⟩ := Kd.at_int HR2.out x22_2 p385 q385
      cases e385
      replace hx385_0 := (HB.out.cell (World.block_lt_of_cell? w _ hx385_0)).trans hx385_0
      replace p385 := eq_true p385
      replace q385 := eq_true q385
      try go_wp2
      replace BK382 := xA (blk_drew BK382.out)
      replace HB := xA (below_drew1 HB.out)
      refine start_ (n := 8) (S := fun w' => w'.cell? ⟨gb382, 0, none⟩ = some (.int .i64 a0_0) ∧ w'.cell? ⟨gb382, 1, none⟩ = some (.int .i64 a0_1) ∧ w'.cell? ⟨gb382, 2, none⟩ = some (.int .i64 a0_2) ∧ w'.cell? ⟨gb382, 3, none⟩ = some (.int .i64 a0_3) ∧ w'.cell? ⟨gb382, 4, none⟩ = some (.bool a0_4)) (ds := []) x9a0 (by kernel_rfl) rfl rfl ⟨(blk_cell BK382.out 0).trans rfl, (blk_cell BK382.out 1).trans rfl, (blk_cell BK382.out 2).trans rfl, (blk_cell BK382.out 3).trans rfl, (blk_cell BK382.out 4).trans rfl⟩ (fun hHeld => ?_); refine with_tabW impl_CountFits.tab7 impl_CountFits.bits7 (fun HT_ HW_ => ?_)
      generalize wr.drew = w21 at BK382 HB hHeld ⊢
      refine xP 0 26 x9a1 ?_
      refine xP 3 29 x9a2 ?_
      refine xP 4 30 x9a3 ?_
      refine xT5 hHeld 1 27 x9a4 ?_
      refine xT5 hHeld 2 28 x9a5 ?_
      refine xU 5 31 x9a6 (fun K hK => ?_)
      refine xY Try.func292 #[.agg #[.int .i64 a0_0, .int .i64 a0_1, .int .i64 a0_2, .int .i64 a0_3, .bool a0_4], .int .i64 x1_2, .int .i64 (rd l2 x22_2)] ?_
      with_reducible refine (impl_First_raw.calls k2 a0_0 a0_1 a0_2 a0_3 a0_4 x1_2 (rd l2 x22_2) t386 _ A17.out).mono ?_
      rintro e w22 ⟨rfl, hb⟩
      refine ⟨_, rfl, ?_⟩
      replace BK382 := xkb BK382 hb
      replace HB := xA (below_step (xB1 GE382.out HB.out) hb)
      (try clear hb); (try clear hb2); (try clear hk); (try clear hi)
      refine hK.out _ _ ⟨(blk_cell BK382.out 0).trans rfl, (blk_cell BK382.out 1).trans rfl, (blk_cell BK382.out 2).trans rfl, (blk_cell BK382.out 3).trans rfl, (blk_cell BK382.out 4).trans rfl⟩ (fun hHeld => ?_)
      clear hK K
      refine xN ?_
      refine xU 6 32 x9a7 (fun K hK => ?_)
      refine xY Try.func291 #[.agg #[.int .i64 a0_3, .bool a0_4], .int .i64 t386] ?_
      with_reducible refine (impl_Word_has.calls a0_3 a0_4 t386 true _ A18.out).mono ?_
      rintro e w23 ⟨rfl, hb⟩
      refine ⟨_, rfl, ?_⟩
      replace BK382 := xkb BK382 hb
      replace HB := xA (below_step (xB1 GE382.out HB.out) hb)
      (try clear hb); (try clear hb2); (try clear hk); (try clear hi)
      refine hK.out _ _ ⟨(blk_cell BK382.out 0).trans rfl, (blk_cell BK382.out 1).trans rfl, (blk_cell BK382.out 2).trans rfl, (blk_cell BK382.out 3).trans rfl, (blk_cell BK382.out 4).trans rfl⟩ (fun hHeld => ?_)
      clear hK K
      refine xN ?_
      refine xP 7 33 x9a8 ?_
      refine xDn ?_
      replace hz382 := blk_cell BK382.out; replace hy382 := blk_frozen BK382.out
      try go_wp2_with (first | (refine xG (some 39) Try.func293 #[.agg #[.int .i64 a0_0, .int .i64 a0_1, .int .i64 a0_2, .int .i64 a0_3, .bool a0_4], .int .i64 x1_2, .int .i64 (rd l2 x22_2)] ?_; (with_reducible refine (impl_First_step.calls k2 a0_0 a0_1 a0_2 a0_3 a0_4 x1_2 (rd l2 x22_2) t388 _ A20.out).mono ?_); rintro e w25 ⟨rfl, hb⟩; refine ⟨_, rfl, ?_⟩; replace BK382 := xkb BK382 hb; replace HB := xA (below_step (xB1 GE382.out HB.out) hb); (try clear hb)))
      go_roundg k2
      case measure => have := HJ3.out; have := HK2.out; omega
      case rel => exact ⟨(t388), (x8_2), (wrap64 (x22_2 + 1)), xs, xs, xs, H', ⟨by have := HJ3.out; have := HK2.out; omega⟩, ⟨xK BK382.out⟩, ⟨xB1 GE382.out HB.out⟩⟩
     replace c19 := Bool.eq_false_iff.mpr c19
     subst c19
     rw [if_neg (show ¬ (false = true) by decide)] at H
     obtain ⟨t389, A26, H⟩ := xO H
     (try dsimp only at H)
     have H' := xA H
     clear H
     have p385 : 0 ≤ (x22_2 : Int) := of_decide_eq_true (by first | (with_reducible assumption) | assumption)
     have q385 : x22_2 < (l2.length : Int) := of_decide_eq_true (by first | (with_reducible assumption) | assumption)
     obtain ⟨ad385, e385, hx385_0⟩ := Kd.at_int HR2.out x22_2 p385 q385
     cases e385
     replace hx385_0 := (HB.out.cell (World.block_lt_of_cell? w _ hx385_0)).trans hx385_0
     replace p385 := eq_true p385
     replace q385 := eq_true q385
     try go_wp2
     replace BK382 := xA (blk_drew BK382.out)
     replace HB := xA (below_drew1 HB.out)
     refine start_ (n := 8) (S := fun w' => w'.cell? ⟨gb382, 0, none⟩ = some (.int .i64 a0_0) ∧ w'.cell? ⟨gb382, 1, none⟩ = some (.int .i64 a0_1) ∧ w'.cell? ⟨gb382, 2, none⟩ = some (.int .i64 a0_2) ∧ w'.cell? ⟨gb382, 3, none⟩ = some (.int .i64 a0_3) ∧ w'.cell? ⟨gb382, 4, none⟩ = some (.bool a0_4)) (ds := []) x9a0 (by kernel_rfl) rfl rfl ⟨(blk_cell BK382.out 0).trans rfl, (blk_cell BK382.out 1).trans rfl, (blk_cell BK382.out 2).trans rfl, (blk_cell BK382.out 3).trans rfl, (blk_cell BK382.out 4).trans rfl⟩ (fun hHeld => ?_); refine with_tabW impl_CountFits.tab7 impl_CountFits.bits7 (fun HT_ HW_ => ?_)
     generalize wr.drew = w27 at BK382 HB hHeld ⊢
     refine xP 0 26 x9a1 ?_
     refine xP 3 29 x9a2 ?_
     refine xP 4 30 x9a3 ?_
     refine xT5 hHeld 1 27 x9a4 ?_
     refine xT5 hHeld 2 28 x9a5 ?_
     refine xU 5 31 x9a6 (fun K hK => ?_)
     refine xY Try.func292 #[.agg #[.int .i64 a0_0, .int .i64 a0_1, .int .i64 a0_2, .int .i64 a0_3, .bool a0_4], .int .i64 x1_2, .int .i64 (rd l2 x22_2)] ?_
     with_reducible refine (impl_First_raw.calls k2 a0_0 a0_1 a0_2 a0_3 a0_4 x1_2 (rd l2 x22_2) t386 _ A17.out).mono ?_
     rintro e w28 ⟨rfl, hb⟩
     refine ⟨_, rfl, ?_⟩
     replace BK382 := xkb BK382 hb
     replace HB := xA (below_step (xB1 GE382.out HB.out) hb)
     (try clear hb); (try clear hb2); (try clear hk); (try clear hi)
     refine hK.out _ _ ⟨(blk_cell BK382.out 0).trans rfl, (blk_cell BK382.out 1).trans rfl, (blk_cell BK382.out 2).trans rfl, (blk_cell BK382.out 3).trans rfl, (blk_cell BK382.out 4).trans rfl⟩ (fun hHeld => ?_)
     clear hK K
     refine xN ?_
     refine xU 6 32 x9a7 (fun K hK => ?_)
     refine xY Try.func291 #[.agg #[.int .i64 a0_3, .bool a0_4], .int .i64 t386] ?_
     with_reducible refine (impl_Word_has.calls a0_3 a0_4 t386 false _ A18.out).mono ?_
     rintro e w29 ⟨rfl, hb⟩
     refine ⟨_, rfl, ?_⟩
     replace BK382 := xkb BK382 hb
     replace HB := xA (below_step (xB1 GE382.out HB.out) hb)
     (try clear hb); (try clear hb2); (try clear hk); (try clear hi)
     refine hK.out _ _ ⟨(blk_cell BK382.out 0).trans rfl, (blk_cell BK382.out 1).trans rfl, (blk_cell BK382.out 2).trans rfl, (blk_cell BK382.out 3).trans rfl, (blk_cell BK382.out 4).trans rfl⟩ (fun hHeld => ?_)
     clear hK K
     refine xN ?_
     refine xP 7 33 x9a8 ?_
     refine xDn ?_
     replace hz382 := blk_cell BK382.out; replace hy382 := blk_frozen BK382.out
     try go_wp2_with (first | (refine xG (some 39) Try.func293 #[.agg #[.int .i64 a0_0, .int .i64 a0_1, .int .i64 a0_2, .int .i64 a0_3, .bool a0_4], .int .i64 x1_2, .int .i64 (rd l2 x22_2)] ?_; (with_reducible refine (impl_First_step.calls k2 a0_0 a0_1 a0_2 a0_3 a0_4 x1_2 (rd l2 x22_2) t389 _ A26.out).mono ?_); rintro e w31 ⟨rfl, hb⟩; refine ⟨_, rfl, ?_⟩; replace BK382 := xkb BK382 hb; replace HB := xA (below_step (xB1 GE382.out HB.out) hb); (try clear hb)))
     go_roundg k2
     case measure => have := HJ3.out; have := HK2.out; omega
     case rel => exact ⟨(t389), (wrap64 (x8_2 + 1)), (wrap64 (x22_2 + 1)), xs, xs, xs, H', ⟨by have := HJ3.out; have := HK2.out; omega⟩, ⟨xK BK382.out⟩, ⟨xB1 GE382.out HB.out⟩⟩
/-! ### spec_CountFits: function 92 -/
def spec_CountFits.f (k : Nat) (a0_0 : Int) (a0_1 : Int) (a0_2 : Int) (a0_3 : Int) (a0_4 : Bool) (a1 : Int) (l2 : List Int) : Option (Int × Bool) := (spec_foAsked.f a0_0 a0_1 a0_2 a0_3 a0_4 a1 0).bind fun t391 => (if t391 = true then ((spec_wdSignal.f k l2).bind fun t392 => (if t392 = true then ((spec_foRun.f k a0_0 a0_1 a0_2 a0_3 a0_4 a1 l2).bind fun bt393 => (some (bt393.2, true))) else (some (0, false)))) else (some (0, false)))
theorem spec_CountFits.mono : ∀ a0 a1 a2 a3 a4 a5 a6 k, LeO (spec_CountFits.f k a0 a1 a2 a3 a4 a5 a6) (spec_CountFits.f (k + 1) a0 a1 a2 a3 a4 a5 a6) := by
 intro a0 a1 a2 a3 a4 a5 a6 k
 have m0 := @spec_foRun.mono
 have m1 := @spec_wdSignal.mono
 unfold spec_CountFits.f
 exact xM
set_option maxHeartbeats 200000000 in
set_option maxRecDepth 100000 in
theorem spec_CountFits.calls (k : Nat) (a0_0 : Int) (a0_1 : Int) (a0_2 : Int) (a0_3 : Int) (a0_4 : Bool) (a1 : Int) (A2 : Option Addr) (c2 : Nat) (l2 : List Int) (r1 : Int) (r2 : Bool) (w : World) (hr2 : Kd.C (Kd.int .i64) w A2 l2.length l2) (hc2 : l2.length ≤ c2) (h : spec_CountFits.f k a0_0 a0_1 a0_2 a0_3 a0_4 a1 l2 = some (r1, r2)) :
  Calls Try.prog 92 #[.agg #[.int .i64 a0_0, .int .i64 a0_1, .int .i64 a0_2, .int .i64 a0_3, .bool a0_4], .int .i64 a1, .slice A2 l2.length c2] w fun e w' => e = .returned (.tuple #[.int .i64 r1, .bool r2]) ∧ Below w.heap.size w w' := by
 have hu62 := Try.underlying62
 have HR2 := xA hr2
 have HC2 := xA hc2
 clear hr2 hc2
 have HB := xA (Below.refl w.heap.size w)
 have H : ((spec_foAsked.f a0_0 a0_1 a0_2 a0_3 a0_4 a1 0).bind fun t391 => (if t391 = true then ((spec_wdSignal.f k l2).bind fun t392 => (if t392 = true then ((spec_foRun.f k a0_0 a0_1 a0_2 a0_3 a0_4 a1 l2).bind fun bt393 => (some (bt393.2, true))) else (some (0, false)))) else (some (0, false)))) = some (r1, r2) := h
 clear h
 obtain ⟨t391, A4, H⟩ := xO H
 (try dsimp only at H)
 by_cases c5 : t391 = true
 rotate_left
 ·replace c5 := Bool.eq_false_iff.mpr c5
  subst c5
  rw [if_neg (show ¬ (false = true) by decide)] at H
  simp only [Option.some.injEq, Prod.mk.injEq] at H
  obtain ⟨rfl, rfl⟩ := H
  go_enter Try.func92, Try.ntmps92
  go_wp2_with (first | (refine xg 3 rfl ?_; refine xV 3 #[.int .i64 a0_0, .int .i64 a0_1, .int .i64 a0_2, .int .i64 a0_3, .bool a0_4] 62 ?_; intro gb390 hg w17 hbox hb; have BK390 := xA (hbox); have GW390 := xgw hg (below_size (xB HB.out)); have GE390 := GW390; replace HB := xA (below_step (xB HB.out) hb); clear hb hbox hg; replace hz390 := blk_cell BK390.out; replace hy390 := blk_frozen BK390.out) | (refine xG (some 12) Try.func285 #[.agg #[.int .i64 a0_0, .int .i64 a0_1, .int .i64 a0_2, .int .i64 a0_3, .bool a0_4], .int .i64 a1, .int .i64 0] ?_; (with_reducible refine (spec_foAsked.calls a0_0 a0_1 a0_2 a0_3 a0_4 a1 0 false _ A4.out).mono ?_); rintro e w19 ⟨rfl, hb⟩; refine ⟨_, rfl, ?_⟩; replace BK390 := xkb BK390 hb; replace HB := xA (below_step (xB1 GE390.out HB.out) hb); (try clear hb)))
  go_ret2
  exact ⟨xr, xB1 GE390.out HB.out⟩

 subst c5
 rw [if_pos rfl] at H
 obtain ⟨t392, A6, H⟩ := xO H
 (try dsimp only at H)
 by_cases c7 : t392 = true
 rotate_left
 ·replace c7 := Bool.eq_false_iff.mpr c7
  subst c7
  rw [if_neg (show ¬ (false = true) by decide)] at H
  simp only [Option.some.injEq, Prod.mk.injEq] at H
  obtain ⟨rfl, rfl⟩ := H
  go_enter Try.func92, Try.ntmps92
  go_wp2_with (first | (refine xg 3 rfl ?_; refine xV 3 #[.int .i64 a0_0, .int .i64 a0_1, .int .i64 a0_2, .int .i64 a0_3, .bool a0_4] 62 ?_; intro gb390 hg w14 hbox hb; have BK390 := xA (hbox); have GW390 := xgw hg (below_size (xB HB.out)); have GE390 := GW390; replace HB := xA (below_step (xB HB.out) hb); clear hb hbox hg; replace hz390 := blk_cell BK390.out; replace hy390 := blk_frozen BK390.out) | (refine xG (some 12) Try.func285 #[.agg #[.int .i64 a0_0, .int .i64 a0_1, .int .i64 a0_2, .int .i64 a0_3, .bool a0_4], .int .i64 a1, .int .i64 0] ?_; (with_reducible refine (spec_foAsked.calls a0_0 a0_1 a0_2 a0_3 a0_4 a1 0 true _ A4.out).mono ?_); rintro e w16 ⟨rfl, hb⟩; refine ⟨_, rfl, ?_⟩; replace BK390 := xkb BK390 hb; replace HB := xA (below_step (xB1 GE390.out HB.out) hb); (try clear hb)) | (go_at_call 236; (with_reducible refine (spec_wdSignal.calls k _ _ l2 false _ ?side1 ?side2 A6.out).mono ?_); (case side1 => exact xC (Kd.C_below HR2.out HB.out)); (case side2 => exact HC2.out); rintro e w' ⟨rfl, ⟨nd, rfl⟩⟩))
  go_ret2
  exact ⟨xr, xB1 GE390.out HB.out⟩
 subst c7
 rw [if_pos rfl] at H
 replace H := Option.bind_eq_some_iff.mp H
 obtain ⟨⟨t393, t396⟩, A80, H⟩ := H
 (try dsimp only at H)
 have A8 := xA A80
 clear A80
 simp only [Option.some.injEq, Prod.mk.injEq] at H
 obtain ⟨rfl, rfl⟩ := H
 go_enter Try.func92, Try.ntmps92
 go_wp2_with (first | (refine xq rfl ?_; first | (refine xG (some 12) Try.func285 #[.agg #[.int .i64 a0_0, .int .i64 a0_1, .int .i64 a0_2, .int .i64 a0_3, .bool a0_4], .int .i64 a1, .int .i64 0] ?_; (with_reducible refine (spec_foAsked.calls a0_0 a0_1 a0_2 a0_3 a0_4 a1 0 true _ A4.out).mono ?_); rintro e w11 ⟨rfl, hb⟩; refine ⟨_, rfl, ?_⟩; replace BK390 := xkb BK390 hb; replace HB := xA (below_step (xB1 GE390.out HB.out) hb); (try clear hb)) | (refine xG (some 23) Try.func286 #[.agg #[.int .i64 a0_0, .int .i64 a0_1, .int .i64 a0_2, .int .i64 a0_3, .bool a0_4], .int .i64 a1, .slice A2 l2.length c2] ?_; (with_reducible refine (spec_foRun.calls k a0_0 a0_1 a0_2 a0_3 a0_4 a1 _ _ l2 t393 t396 _ ?side1 ?side2 A8.out).mono ?_); (case side1 => repeat (first | exact (Kd.C_below HR2.out (xB1 GE390.out HB.out)) | (with_reducible refine Kd.C_alloc ?_ _) | (with_reducible refine Kd.C_drewN ?_ _) | (with_reducible refine Kd.C_drew ?_))); (case side2 => exact HC2.out); rintro e w13 ⟨v394, rfl, ho0, hb⟩; refine ⟨_, rfl, ?_⟩; have HO395 := xA (Kd.R_lower ho0 (below_size (xB1 GE390.out HB.out))); replace BK390 := xkb BK390 hb; replace HB := xA (below_step (xB1 GE390.out HB.out) hb); (try clear hb); (try clear ho0))) | (refine xg 3 rfl ?_; refine xV 3 #[.int .i64 a0_0, .int .i64 a0_1, .int .i64 a0_2, .int .i64 a0_3, .bool a0_4] 62 ?_; intro gb390 hg w9 hbox hb; have BK390 := xA (hbox); have GW390 := xgw hg (below_size (xB HB.out)); have GE390 := GW390; replace HB := xA (below_step (xB HB.out) hb); clear hb hbox hg; replace hz390 := blk_cell BK390.out; replace hy390 := blk_frozen BK390.out) | (go_at_call 236; (with_reducible refine (spec_wdSignal.calls k _ _ l2 true _ ?side1 ?side2 A6.out).mono ?_); (case side1 => exact xC (Kd.C_below HR2.out HB.out)); (case side2 => exact HC2.out); rintro e w' ⟨rfl, ⟨nd, rfl⟩⟩; replace hz390 := blk_cell BK390.out; replace hy390 := blk_frozen BK390.out))
 go_ret2
 exact ⟨xr, xB1 GE390.out HB.out⟩
/-! ### impl_size: function 272 -/
def impl_size.f (a0 : Int) : Option (Int) := some (mx a0 (wrap64 (-a0)))
set_option maxHeartbeats 200000000 in
set_option maxRecDepth 100000 in
theorem impl_size.calls (a0 : Int) (r : Int) (w : World) (h : impl_size.f a0 = some r) :
  Calls Try.prog 272 #[.int .i64 a0] w fun e w' => e = .returned (.int .i64 r) ∧ Below w.heap.size w w' := by
 have HB := xA (Below.refl w.heap.size w)
 have H : (some (mx a0 (wrap64 (-a0)))) = some r := h
 clear h
 obtain ⟨ji2, hji2⟩ : ∃ j_ : Int, (mx a0 (wrap64 (-a0))) = j_ := ⟨_, rfl⟩
 (first | rw [hji2] at H | simp only [hji2] at H)
 have hji2_ : (if a0 < (wrap64 (-a0)) then (wrap64 (-a0)) else a0) = ji2 := hji2
 obtain rfl := Option.some.inj H
 go_enter Try.func272, Try.ntmps272
 go_wp2
 go_ret
 exact ⟨by first | rfl | (simp [errW_none, errW_some] <;> rfl) | (simp only [← hji2]; first | rfl | (simp [errW_none, errW_some] <;> rfl)) | (simp [*, errW_none, errW_some] <;> rfl), xB HB.out⟩

/-! ### impl_First_isShrinking: function 295 -/
def impl_First_isShrinking.f (a0_0 : Int) (a0_1 : Int) (a0_2 : Int) (a0_3 : Int) (a0_4 : Bool) : Option (Bool) := (impl_size.f a0_0).bind fun t398 => (if 0 ≤ a0_1 then (some (decide (t398 < (shl .i64 1 a0_1)))) else (none))
def impl_First_isShrinking.T1 : Bool × List (List Nat × List Nat) := (true, [([], []), ([0], [0]), ([1], [1]), ([], []), ([3], [3]), ([4], [4]), ([2, 5], [2, 5]), ([6, 2, 0, 1, 2, 3, 4, 5, 6], [6])])
def impl_First_isShrinking.B1 : List Nat := [0, 1, 3, 0, 8, 24, 63, 127]
theorem impl_First_isShrinking.tab1 : rtab .any (opsOf Try.f295 1) = impl_First_isShrinking.T1 := by kernel_rfl
theorem impl_First_isShrinking.bits1 : waitsOk impl_First_isShrinking.T1.2 impl_First_isShrinking.B1 = true := by kernel_rfl
set_option maxHeartbeats 200000000 in
set_option maxRecDepth 100000 in
theorem impl_First_isShrinking.calls (a0_0 : Int) (a0_1 : Int) (a0_2 : Int) (a0_3 : Int) (a0_4 : Bool) (r : Bool) (w : World) (h : impl_First_isShrinking.f a0_0 a0_1 a0_2 a0_3 a0_4 = some r) :
  Calls Try.prog 295 #[.agg #[.int .i64 a0_0, .int .i64 a0_1, .int .i64 a0_2, .int .i64 a0_3, .bool a0_4]] w fun e w' => e = .returned (.bool r) ∧ Below w.heap.size w w' := by
 have hu62 := Try.underlying62
 have HB := xA (Below.refl w.heap.size w)
 have H : ((impl_size.f a0_0).bind fun t398 => (if 0 ≤ a0_1 then (some (decide (t398 < (shl .i64 1 a0_1)))) else (none))) = some r := h
 clear h
 obtain ⟨t398, A2, H⟩ := xO H
 (try dsimp only at H)
 by_cases c3 : 0 ≤ a0_1
 rotate_left
 ·rw [if_neg c3] at H
  exact absurd H (by simp)

 rw [if_pos c3] at H
 have c3b0 := eq_true c3
 have c3b1 : decide (0 ≤ a0_1) = true := decide_eq_true c3
 clear c3
 obtain ⟨ji4, hji4⟩ : ∃ j_ : Int, (shl .i64 1 a0_1) = j_ := ⟨_, rfl⟩
 (first | rw [hji4] at H | simp only [hji4] at H)
 (try rw [hji4] at A2)
 have hji4_ : (IntKind.i64.wrap (1 * 2 ^ min a0_1.toNat 64)) = ji4 := hji4
 have hji4z : a0_1 ≤ 64 → (IntKind.i64.wrap (1 * 2 ^ a0_1.toNat)) = ji4 := shl_small hji4
 have hji4u : (IntKind.i64.wrap (2 ^ min a0_1.toNat 64)) = ji4 := by have h_ := hji4_; rw [Int.one_mul] at h_; exact h_
 have hji4v : a0_1 ≤ 64 → (IntKind.i64.wrap (2 ^ a0_1.toNat)) = ji4 := fun hle_ => by have h_ := hji4z hle_; rw [Int.one_mul] at h_; exact h_
 have hji4y : (wrap64 (1 * 2 ^ min a0_1.toNat 64)) = ji4 := (i64_w _).symm.trans hji4_
 have hji4x : a0_1 ≤ 64 → (wrap64 (1 * 2 ^ a0_1.toNat)) = ji4 := fun h_ => (i64_w _).symm.trans (hji4z h_)
 obtain rfl := Option.some.inj H
 go_enter Try.func295, Try.ntmps295
 try go_wp2_with (first | (refine xg 1 rfl ?_; refine xV 1 #[.int .i64 a0_0, .int .i64 a0_1, .int .i64 a0_2, .int .i64 a0_3, .bool a0_4] 62 ?_; intro gb397 hg w5 hbox hb; have BK397 := xA (hbox); have GW397 := xgw hg (below_size (xB HB.out)); have GE397 := GW397; replace HB := xA (below_step (xB HB.out) hb); clear hb hbox hg))
 replace BK397 := xA (blk_drew BK397.out)
 replace HB := xA (below_drew1 HB.out)
 refine start_ (n := 8) (S := fun w' => w'.cell? ⟨gb397, 0, none⟩ = some (.int .i64 a0_0) ∧ w'.cell? ⟨gb397, 1, none⟩ = some (.int .i64 a0_1) ∧ w'.cell? ⟨gb397, 2, none⟩ = some (.int .i64 a0_2) ∧ w'.cell? ⟨gb397, 3, none⟩ = some (.int .i64 a0_3) ∧ w'.cell? ⟨gb397, 4, none⟩ = some (.bool a0_4)) (ds := []) x9a0 (by kernel_rfl) rfl rfl ⟨(blk_cell BK397.out 0).trans rfl, (blk_cell BK397.out 1).trans rfl, (blk_cell BK397.out 2).trans rfl, (blk_cell BK397.out 3).trans rfl, (blk_cell BK397.out 4).trans rfl⟩ (fun hHeld => ?_); refine with_tabW impl_First_isShrinking.tab1 impl_First_isShrinking.bits1 (fun HT_ HW_ => ?_)
 generalize w5.drew = w6 at BK397 HB hHeld ⊢
 refine xP 0 3 x9a1 ?_
 refine xP 3 6 x9a2 ?_
 refine xT5 hHeld 1 4 x9a9 ?_
 refine xT5 hHeld 4 7 x9a4 ?_
 refine xP 5 8 x9a10 ?_
 refine xU 2 5 x9a6 (fun K hK => ?_)
 refine xY Try.func272 #[.int .i64 a0_0] ?_
 with_reducible refine (impl_size.calls a0_0 t398 _ A2.out).mono ?_
 rintro e w7 ⟨rfl, hb⟩
 refine ⟨_, rfl, ?_⟩
 replace BK397 := xkb BK397 hb
 replace HB := xA (below_step (xB1 GE397.out HB.out) hb)
 (try clear hb); (try clear hb2); (try clear hk); (try clear hi)
 refine hK.out _ _ ⟨(blk_cell BK397.out 0).trans rfl, (blk_cell BK397.out 1).trans rfl, (blk_cell BK397.out 2).trans rfl, (blk_cell BK397.out 3).trans rfl, (blk_cell BK397.out 4).trans rfl⟩ (fun hHeld => ?_)
 clear hK K
 refine xN ?_
 refine xP 6 9 x9a7 ?_
 refine xP 7 2 x9a8 ?_
 refine xDn ?_
 try go_wp2
 go_ret
 exact ⟨by first | rfl | (simp [errW_none, errW_some] <;> rfl) | (simp only [← hji4]; first | rfl | (simp [errW_none, errW_some] <;> rfl)) | (simp [*, errW_none, errW_some] <;> rfl), xB1 GE397.out HB.out⟩
/-! ### impl_gcd: function 226 -/
def impl_gcd.l0 : Nat → Int → Int → Option (Int)
 | 0, _, _ => none
 | k + 1, x0, x1 => if x1 = 0 then (some x0) else (impl_gcd.l0 k x1 (Int.tmod x0 x1))
def impl_gcd.f (k : Nat) (a0 : Int) (a1 : Int) : Option (Int) := (impl_size.f a0).bind fun t399 => ((impl_size.f a1).bind fun t400 => (impl_gcd.l0 k t399 t400))
theorem impl_gcd.mono_l : ∀ k, (∀ y0 y1, LeO (impl_gcd.l0 k y0 y1) (impl_gcd.l0 (k + 1) y0 y1))
 | 0 => fun _ _ r h => by simp [impl_gcd.l0] at h
 | k + 1 => by
  have ih0 := impl_gcd.mono_l k
  intros
  unfold impl_gcd.l0
  exact xM
theorem impl_gcd.mono : ∀ a0 a1 k, LeO (impl_gcd.f k a0 a1) (impl_gcd.f (k + 1) a0 a1) := by
 intro a0 a1 k
 have ih0 := impl_gcd.mono_l k
 unfold impl_gcd.f
 exact xM
set_option maxHeartbeats 200000000 in
set_option maxRecDepth 100000 in
theorem impl_gcd.calls (k : Nat) (a0 : Int) (a1 : Int) (r : Int) (w : World) (h : impl_gcd.f k a0 a1 = some r) :
  Calls Try.prog 226 #[.int .i64 a0, .int .i64 a1] w fun e w' => e = .returned (.int .i64 r) ∧ Below w.heap.size w w' := by
 have HB := xA (Below.refl w.heap.size w)
 have H : ((impl_size.f a0).bind fun t399 => ((impl_size.f a1).bind fun t400 => (impl_gcd.l0 k t399 t400))) = some r := h
 clear h
 obtain ⟨t399, A3, H⟩ := xO H
 (try dsimp only at H)
 obtain ⟨t400, A4, H⟩ := xO H
 (try dsimp only at H)
 have H' := xA H
 clear H
 go_enter Try.func226, Try.ntmps226
 go_wp2_with (first | (go_at_call 272; (with_reducible refine (impl_size.calls a0 t399 _ A3.out).mono ?_); rintro e w5 ⟨rfl, hb⟩; replace HB := xA (below_step (xB HB.out) hb); (try clear hb)) | (go_at_call 272; (with_reducible refine (impl_size.calls a1 t400 _ A4.out).mono ?_); rintro e w6 ⟨rfl, hb⟩; replace HB := xA (below_step (xB HB.out) hb); (try clear hb)))
 repeat (go_quiet (first | (go_at_call 272; (with_reducible refine (impl_size.calls a0 t399 _ A3.out).mono ?_); rintro e w5 ⟨rfl, hb⟩; replace HB := xA (below_step (xB HB.out) hb); (try clear hb)) | (go_at_call 272; (with_reducible refine (impl_size.calls a1 t400 _ A4.out).mono ?_); rintro e w6 ⟨rfl, hb⟩; replace HB := xA (below_step (xB HB.out) hb); (try clear hb))); try go_wp2_with (first | (go_at_call 272; (with_reducible refine (impl_size.calls a0 t399 _ A3.out).mono ?_); rintro e w5 ⟨rfl, hb⟩; replace HB := xA (below_step (xB HB.out) hb); (try clear hb)) | (go_at_call 272; (with_reducible refine (impl_size.calls a1 t400 _ A4.out).mono ?_); rintro e w6 ⟨rfl, hb⟩; replace HB := xA (below_step (xB HB.out) hb); (try clear hb))))
 go_loopg [0, 1] k (fun kq v0 v1 w' => ∃ (x0_1 : Int) (x1_1 : Int), v0 = .int .i64 x0_1 ∧ v1 = .int .i64 x1_1 ∧ Aside0 (impl_gcd.l0 kq x0_1 x1_1 = some r) ∧ Aside0 (kq ≤ k) ∧ Aside0 (Below w.heap.size w w'))
 case atStart => exact ⟨(t399), (t400), xs, xs, H', ⟨Nat.le_refl _⟩, ⟨xB HB.out⟩⟩
 case round =>
  clear H'
  obtain ⟨x0_1, x1_1, rfl, rfl, HA, HK1, HB⟩ := hrel
  cases gk with
  | zero => exact absurd HA.out (by simp [impl_gcd.l0])
  | succ k1 =>
   have H := HA.out
   clear HA
   simp only [impl_gcd.l0] at H
   by_cases c7 : x1_1 = 0
   ·rw [if_pos c7] at H
    have c7b0 : (x1_1 == 0) = true := beq_iff_eq.mpr c7
    have c7b1 : (x1_1 != 0) = false := bne_eq_false_iff_eq.mpr c7
    clear c7
    obtain rfl := Option.some.inj H
    go_wp2
    repeat (go_quiet (fail); try go_wp2)
    go_ret
    exact ⟨xr, xB HB.out⟩
   rw [if_neg c7] at H
   have c7b0 : (x1_1 == 0) = false := beq_eq_false_iff_ne.mpr c7
   have c7b1 : (x1_1 != 0) = true := bne_iff_ne.mpr c7
   have H' := xA H
   clear H
   go_wp2
   repeat (go_quiet (fail); try go_wp2)
   go_roundg k1
   case measure => have := HK1.out; omega
   case rel => exact ⟨(x1_1), (Int.tmod x0_1 x1_1), xs, xs, H', ⟨by have := HK1.out; omega⟩, ⟨xB HB.out⟩⟩

end Go.Proofs.Ytjplcongellcmaa.PFnFirstRuns
