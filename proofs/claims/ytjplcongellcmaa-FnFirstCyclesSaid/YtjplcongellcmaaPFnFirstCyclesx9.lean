/- What each Go function that the statement FnFirstCycles reaches answers, proved call by call. No condition beyond those that the theorems print. (Written by wip/tools/xprint.py of this repo, over the kit's print.) -/
import Derived.Test.YtjplcongellcmaaPFnFirstCyclesx0
import Derived.Test.YtjplcongellcmaaPFnFirstCyclesx1
import Derived.Test.YtjplcongellcmaaPFnFirstCyclesx2
import Derived.Test.YtjplcongellcmaaPFnFirstCyclesx4
namespace Go.Proofs.Ytjplcongellcmaa.PFnFirstCycles
open Go.RowKit Go.Proofs.YtjplcongellcmaaW.PrintWords Go.Proofs.YtjplcongellcmaaW.PrintLast Go.Proofs.YtjplcongellcmaaW.PrintMore
attribute [local go_sem] max2_int min2_int max_two min_two max_three min_three max_four min_four   -- for this text's walks alone
set_option linter.unusedVariables false
set_option linter.unusedSimpArgs false
def x9a0 : Array Bool := #[Zz,Zz,Zz,Zz,Zz,Zz,Zz,Zz,Zz,Zz,Zz]
def x9a1 : Array Bool := #[Zz,Zz,Yy,Zz,Zz,Zz,Zz,Zz,Zz,Zz,Zz]
def x9a2 : Array Bool := #[Zz,Zz,Yy,Zz,Zz,Yy,Zz,Zz,Zz,Zz,Zz]
def x9a3 : Array Bool := #[Yy,Zz,Yy,Zz,Zz,Yy,Zz,Zz,Zz,Zz,Zz]
def x9a4 : Array Bool := #[Yy,Zz,Yy,Zz,Zz,Yy,Yy,Zz,Zz,Zz,Zz]
def x9a5 : Array Bool := #[Yy,Zz,Yy,Zz,Zz,Yy,Yy,Yy,Zz,Zz,Zz]
def x9a6 : Array Bool := #[Yy,Yy,Yy,Zz,Zz,Yy,Yy,Yy,Zz,Zz,Zz]
def x9a7 : Array Bool := #[Yy,Yy,Yy,Yy,Zz,Yy,Yy,Yy,Zz,Zz,Zz]
def x9a8 : Array Bool := #[Yy,Yy,Yy,Yy,Yy,Yy,Yy,Yy,Zz,Zz,Zz]
def x9a9 : Array Bool := #[Yy,Yy,Yy,Yy,Yy,Yy,Yy,Yy,Yy,Zz,Zz]
def x9a10 : Array Bool := #[Yy,Yy,Yy,Yy,Yy,Yy,Yy,Yy,Yy,Yy,Zz]
def x9a11 : Array Bool := #[Yy,Yy,Yy,Yy,Yy,Yy,Yy,Yy,Yy,Yy,Yy]

/-- where a number stands in a list that grows at its head -/
def impl_FirstPeriod_ix (y : Int) : List Int → Option Nat
 | [] => none
 | z :: r => if y = z then some r.length else impl_FirstPeriod_ix y r
/-- the map: each number's place -/
def impl_FirstPeriod_D : List Int → DataW Unit
 | [] => .map []
 | z :: r => (impl_FirstPeriod_D r).put (.int .i64 z) (.lit (.int .i64 (r.length : Int)))
theorem impl_FirstPeriod_D.isMap : ∀ r, Go.Maps.IsMap (impl_FirstPeriod_D r)
 | [] => Go.Maps.isMap_empty
 | z :: r => (impl_FirstPeriod_D.isMap r).put _ _
theorem impl_FirstPeriod_D.read (y : Int) : ∀ r : List Int, (∀ i, impl_FirstPeriod_ix y r = some i → Go.Maps.has (impl_FirstPeriod_D r) (.int .i64 y) = true ∧ ∀ z, (impl_FirstPeriod_D r).atKey (.int .i64 y) z = .lit (.int .i64 (i : Int))) ∧ (impl_FirstPeriod_ix y r = none → Go.Maps.has (impl_FirstPeriod_D r) (.int .i64 y) = false)
 | [] => ⟨fun i h => by simp [impl_FirstPeriod_ix] at h, fun _ => rfl⟩
 | z :: r => by
  have ih := impl_FirstPeriod_D.read y r
  by_cases c : y = z
  ·subst c
   refine ⟨fun i h => ?_, fun h => by simp [impl_FirstPeriod_ix] at h⟩
   have e : r.length = i := by simpa [impl_FirstPeriod_ix] using h
   subst e
   exact ⟨Go.Maps.has_put_same (k := .int .i64 y) (impl_FirstPeriod_D.isMap r) trivial _, fun z => Go.Maps.atKey_put_same (k := .int .i64 y) (impl_FirstPeriod_D.isMap r) trivial _ _⟩
  have hne : (Lit.int .i64 y) ≠ .int .i64 z := fun e => c (by injection e)
  have e1 : impl_FirstPeriod_ix y (z :: r) = impl_FirstPeriod_ix y r := by simp [impl_FirstPeriod_ix, c]
  rw [e1]
  refine ⟨fun i h => ?_, fun h => ?_⟩
  ·obtain ⟨h1, h2⟩ := ih.1 i h
   exact ⟨(Go.Maps.has_put_other hne _).trans h1, fun z' => (Go.Maps.atKey_put_other hne _ _).trans (h2 z')⟩
  ·exact (Go.Maps.has_put_other hne _).trans (ih.2 h)
theorem impl_FirstPeriod.wfn {n : Nat} (h : n < 1000000000) : (Lit.int .i64 (n : Int)).wf = true := WalkArith.wf_i64 ⟨by omega, by omega⟩
theorem impl_FirstPeriod.om {H : Type} {P : Program} {k : TypeId} {R : Value → Option (DataW H × List MemPlace)} {b n : Nat} {D : DataW H} {w w1 : World} (h : w.ownsMap P k R b n D) (hb : Below w.heap.size w w1) : w1.ownsMap P k R b n D := by
 obtain ⟨es, clock, h1, h2⟩ := h
 exact ⟨es, clock, blk_below h1 hb, h2⟩
def impl_FirstPeriod.l0 : Nat → List Int → Int → Int → Int → Int → Int → Int → Bool → Option (Int × Int × Bool)
 | 0, _, _, _, _, _, _, _, _ => none
 | k + 1, r, y, x, b0, b1, b2, b3, b4 => if (Lit.int .i64 y).wf = true then (if r.length < 1000000000 then (match impl_FirstPeriod_ix y r with
   | some i => some ((i : Int), wrap64 ((r.length : Int) - (i : Int)), true)
   | none => (impl_First_step.f k b0 b1 b2 b3 b4 y x).bind fun t3 => impl_FirstPeriod.l0 k (y :: r) t3 x b0 b1 b2 b3 b4) else none) else none
theorem impl_FirstPeriod.mono_l : ∀ k, (∀ y0 y1 y2 y3 y4 y5 y6 y7, LeO (impl_FirstPeriod.l0 k y0 y1 y2 y3 y4 y5 y6 y7) (impl_FirstPeriod.l0 (k + 1) y0 y1 y2 y3 y4 y5 y6 y7))
 | 0 => fun _ _ _ _ _ _ _ _ r h => by simp [impl_FirstPeriod.l0] at h
 | k + 1 => by
  have ih0 := impl_FirstPeriod.mono_l k
  intro y0 y1 y2 y3 y4 y5 y6 y7
  unfold impl_FirstPeriod.l0
  refine LeO.ite (LeO.ite ?_ (LeO.none _)) (LeO.none _)
  cases impl_FirstPeriod_ix y1 y0 with
  | some i => exact LeO.refl _
  | none => exact LeO.bind (impl_First_step.mono _ _ _ _ _ _ _ _) (fun _ => ih0 _ _ _ _ _ _ _ _)
def impl_FirstPeriod.f (k : Nat) (a0_0 : Int) (a0_1 : Int) (a0_2 : Int) (a0_3 : Int) (a0_4 : Bool) (a1 : Int) (a2 : Int) : Option (Int × Int × Bool) := (impl_First_isAt.f a0_0 a0_1 a0_2 a0_3 a0_4 a1).bind fun t1 => (if t1 = true then ((impl_isSample.f a2).bind fun t2 => (if t2 = true then (impl_FirstPeriod.l0 k [] a1 a2 a0_0 a0_1 a0_2 a0_3 a0_4) else (some (0, 0, false)))) else (some (0, 0, false)))
theorem impl_FirstPeriod.mono : ∀ a0 a1 a2 a3 a4 a5 a6 k, LeO (impl_FirstPeriod.f k a0 a1 a2 a3 a4 a5 a6) (impl_FirstPeriod.f (k + 1) a0 a1 a2 a3 a4 a5 a6) := by
 intro a0 a1 a2 a3 a4 a5 a6 k
 unfold impl_FirstPeriod.f
 exact LeO.bind (LeO.refl _) (fun _ => LeO.ite (LeO.bind (LeO.refl _) (fun _ => LeO.ite (impl_FirstPeriod.mono_l k _ _ _ _ _ _ _ _) (LeO.refl _))) (LeO.refl _))
theorem impl_FirstPeriod.law3 : Go.Maps.Keyed Try.prog 3 := Go.Maps.int_keyed Try.underlying3
theorem impl_FirstPeriod.zero3 (w : World) : (zeroValue 3).run Try.prog w = .ok (.int .i64 0) w := by kernel_rfl
set_option maxHeartbeats 200000000 in
set_option maxRecDepth 100000 in
theorem impl_FirstPeriod.calls (k : Nat) (a0_0 : Int) (a0_1 : Int) (a0_2 : Int) (a0_3 : Int) (a0_4 : Bool) (a1 : Int) (a2 : Int) (r1 : Int) (r2 : Int) (r3 : Bool) (w : World) (h : impl_FirstPeriod.f k a0_0 a0_1 a0_2 a0_3 a0_4 a1 a2 = some (r1, r2, r3)) :
  Calls Try.prog 111 #[.agg #[.int .i64 a0_0, .int .i64 a0_1, .int .i64 a0_2, .int .i64 a0_3, .bool a0_4], .int .i64 a1, .int .i64 a2] w fun e w' => e = .returned (.tuple #[.int .i64 r1, .int .i64 r2, .bool r3]) ∧ Below w.heap.size w w' := by
 have hu62 := Try.underlying62
 have HB := xA (Below.refl w.heap.size w)
 have hmm := @run_makeMap Try.prog
 unfold impl_FirstPeriod.f at h
 obtain ⟨t1, A10, H⟩ := Option.bind_eq_some_iff.mp h
 clear h
 have A1 := xA A10
 clear A10
 by_cases c1 : t1 = true
 rotate_left
 ·replace c1 := Bool.eq_false_iff.mpr c1
  subst c1
  rw [if_neg (show ¬ (false = true) by decide)] at H
  simp only [Option.some.injEq, Prod.mk.injEq] at H
  obtain ⟨rfl, rfl, rfl⟩ := H
  go_enter Try.func111, Try.ntmps111
  go_wp2_with (first | (refine xg 3 rfl ?_; refine xV 3 #[.int .i64 a0_0, .int .i64 a0_1, .int .i64 a0_2, .int .i64 a0_3, .bool a0_4] 62 ?_; intro gb1 hg w3 hbox hb; replace HB := xA (below_step (xB HB.out) hb); have BK0 := xA hbox; clear hb hbox hg; have hcz := blk_cell BK0.out; have hfz := blk_frozen BK0.out) | (go_at_call 283; (with_reducible refine (impl_First_isAt.calls a0_0 a0_1 a0_2 a0_3 a0_4 a1 false _ A1.out).mono ?_); rintro e w7 ⟨rfl, hb⟩; replace HB := xA (below_step (xB HB.out) hb); replace BK0 := xA (blk_below (by ((with_reducible repeat (first | refine blk_drewN ?_ _ | refine blk_drew ?_ | refine blk_alloc ?_ _)); exact BK0.out)) hb); clear hb hcz hfz; have hcz := blk_cell BK0.out; have hfz := blk_frozen BK0.out))
  go_ret3
  exact ⟨by first | rfl | (simp; done) | (simp [*]; done), (xB HB.out)⟩
 subst c1
 rw [if_pos rfl] at H
 obtain ⟨t2, A20, H⟩ := Option.bind_eq_some_iff.mp H
 have A2_ := xA A20
 clear A20
 by_cases c2_ : t2 = true
 rotate_left
 ·replace c2_ := Bool.eq_false_iff.mpr c2_
  subst c2_
  rw [if_neg (show ¬ (false = true) by decide)] at H
  simp only [Option.some.injEq, Prod.mk.injEq] at H
  obtain ⟨rfl, rfl, rfl⟩ := H
  go_enter Try.func111, Try.ntmps111
  go_wp2_with (first | (refine xg 3 rfl ?_; refine xV 3 #[.int .i64 a0_0, .int .i64 a0_1, .int .i64 a0_2, .int .i64 a0_3, .bool a0_4] 62 ?_; intro gb1 hg w3 hbox hb; replace HB := xA (below_step (xB HB.out) hb); have BK0 := xA hbox; clear hb hbox hg; have hcz := blk_cell BK0.out; have hfz := blk_frozen BK0.out) | (go_at_call 283; (with_reducible refine (impl_First_isAt.calls a0_0 a0_1 a0_2 a0_3 a0_4 a1 true _ A1.out).mono ?_); rintro e w7 ⟨rfl, hb⟩; replace HB := xA (below_step (xB HB.out) hb); replace BK0 := xA (blk_below (by ((with_reducible repeat (first | refine blk_drewN ?_ _ | refine blk_drew ?_ | refine blk_alloc ?_ _)); exact BK0.out)) hb); clear hb hcz hfz; have hcz := blk_cell BK0.out; have hfz := blk_frozen BK0.out) | (go_at_call 300; (with_reducible refine (impl_isSample.calls a2 false _ A2_.out).mono ?_); rintro e w' ⟨rfl, ⟨nd, rfl⟩⟩))
  go_ret3
  exact ⟨by first | rfl | (simp; done) | (simp [*]; done), (xB HB.out)⟩
 subst c2_
 rw [if_pos rfl] at H
 have H' := xA H
 clear H
 go_enter Try.func111, Try.ntmps111
 go_wp2_with (first | (refine xg 3 rfl ?_; refine xV 3 #[.int .i64 a0_0, .int .i64 a0_1, .int .i64 a0_2, .int .i64 a0_3, .bool a0_4] 62 ?_; intro gb1 hg w3 hbox hb; replace HB := xA (below_step (xB HB.out) hb); have BK0 := xA hbox; clear hb hbox hg; have hcz := blk_cell BK0.out; have hfz := blk_frozen BK0.out) | (go_at_call 283; (with_reducible refine (impl_First_isAt.calls a0_0 a0_1 a0_2 a0_3 a0_4 a1 true _ A1.out).mono ?_); rintro e w7 ⟨rfl, hb⟩; replace HB := xA (below_step (xB HB.out) hb); replace BK0 := xA (blk_below (by ((with_reducible repeat (first | refine blk_drewN ?_ _ | refine blk_drew ?_ | refine blk_alloc ?_ _)); exact BK0.out)) hb); clear hb hcz hfz; have hcz := blk_cell BK0.out; have hfz := blk_frozen BK0.out) | (go_at_call 300; (with_reducible refine (impl_isSample.calls a2 true _ A2_.out).mono ?_); rintro e w' ⟨rfl, ⟨nd, rfl⟩⟩))
 have HL := xA (show gb1 ≠ w7.heap.size from Nat.ne_of_lt (blk_lt BK0.out))
 have HW7 := xA (show w.heap.size ≤ w7.heap.size from below_size HB.out)
 clear hcz hfz
 go_loopg [1, 10] k (fun kq v1 v10 w' => ∃ (y_1 : Int) (rv : List Int), v1 = .int .i64 y_1 ∧ v10 = .int .i64 (rv.length : Int) ∧ Aside0 (impl_FirstPeriod.l0 kq rv y_1 a2 a0_0 a0_1 a0_2 a0_3 a0_4 = some (r1, r2, r3)) ∧ Aside0 (kq ≤ k) ∧ Aside0 (w'.ownsMap Try.prog 3 (plainElem Try.prog 3) w7.heap.size rv.length (impl_FirstPeriod_D rv)) ∧ Aside0 (w'.heap[gb1]? = some (.cells #[.int .i64 a0_0, .int .i64 a0_1, .int .i64 a0_2, .int .i64 a0_3, .bool a0_4] 62 (0, 0))) ∧ Aside0 (Below w.heap.size w w') ∧ Aside0 (w.heap.size ≤ w'.heap.size))
 case atStart => exact ⟨a1, [], rfl, rfl, H', ⟨Nat.le_refl _⟩, ⟨World.ownsMap_made _ _ _ _⟩, ⟨by ((with_reducible repeat (first | refine blk_drewN ?_ _ | refine blk_drew ?_ | refine blk_alloc ?_ _)); exact BK0.out)⟩, ⟨(xB HB.out)⟩, ⟨below_size (xB HB.out)⟩⟩
 case round =>
  clear H' BK0 HB
  obtain ⟨y_1, rv, rfl, rfl, HA, HK1, HM, BK0, HB, HW⟩ := hrel
  have hcz := blk_cell BK0.out
  have hfz := blk_frozen BK0.out
  cases gk with
  | zero => exact absurd HA.out (by simp [impl_FirstPeriod.l0])
  | succ k1 =>
   have H := HA.out
   clear HA
   simp only [impl_FirstPeriod.l0] at H
   by_cases c5 : (Lit.int .i64 y_1).wf = true
   rotate_left
   ·rw [if_neg c5] at H
    exact absurd H (by simp)
   rw [if_pos c5] at H
   have HKEY := Go.Maps.keyOf_int_mk Try.underlying3 c5
   clear c5
   by_cases c6 : rv.length < 1000000000
   rotate_left
   ·rw [if_neg c6] at H
    exact absurd H (by simp)
   rw [if_pos c6] at H
   have LMc := xA c6
   clear c6
   cases hix : impl_FirstPeriod_ix y_1 rv with
   | some i =>
    rw [hix] at H
    simp only [Option.some.injEq, Prod.mk.injEq] at H
    obtain ⟨rfl, rfl, rfl⟩ := H
    have hrd := xA ((impl_FirstPeriod_D.read y_1 rv).1 i hix)
    have hhas := ((impl_FirstPeriod_D.read y_1 rv).1 i hix).1
    clear hix
    go_wp2_with (first | (at_lookup; refine wpList_lookup_own_ok_int _ rfl _ _ 174 rfl 3 3 .i64 impl_FirstPeriod.law3 Try.underlying174 Try.underlying3 (impl_FirstPeriod.zero3 _) w7.heap.size rv.length (impl_FirstPeriod_D rv) rfl HM.out _ _ rfl HKEY ?_; intro c hat hwc; obtain rfl : c = (i : Int) := by (have e_ := hat.symm.trans (hrd.out.2 _)); (injection e_ with e_); (injection e_)) | (at_mapUpdate; refine wpList_mapUpdate_own _ rfl _ _ _ 174 rfl 3 3 impl_FirstPeriod.law3 Try.underlying174 _ w7.heap.size rv.length (impl_FirstPeriod_D rv) rfl HM.out (by have := LMc.out; unfold maxLen; omega) _ _ _ rfl rfl HKEY _ [] (plainElem_int Try.underlying3 (impl_FirstPeriod.wfn LMc.out)) ?_; intro w8 hown1 hgrow1; replace HM := xA hown1; replace BK0 := xA (blk_grown (by ((with_reducible repeat (first | refine blk_drewN ?_ _ | refine blk_drew ?_ | refine blk_alloc ?_ _)); exact BK0.out)) hgrow1 (fun e_ => HL.out (by cases e_; rfl))); replace HB := xA (HB.out.grown hgrow1 HW.out (fun j hj => by cases hj; exact HW7.out)); replace HW := xA (Nat.le_trans HW.out hgrow1.size); clear hown1 hgrow1 hcz hfz; have hcz := blk_cell BK0.out; have hfz := blk_frozen BK0.out))
    go_ret3
    exact ⟨by first | rfl | (simp; done) | (simp [*]; done), (xB HB.out)⟩
   | none =>
    rw [hix] at H
    obtain ⟨t3, A30, H⟩ := Option.bind_eq_some_iff.mp H
    have A3 := xA A30
    clear A30
    have hhas := (impl_FirstPeriod_D.read y_1 rv).2 hix
    clear hix
    have H' := xA H
    clear H
    go_wp2_with (first | (at_lookup; refine wpList_lookup_own_ok_int _ rfl _ _ 174 rfl 3 3 .i64 impl_FirstPeriod.law3 Try.underlying174 Try.underlying3 (impl_FirstPeriod.zero3 _) w7.heap.size rv.length (impl_FirstPeriod_D rv) rfl HM.out _ _ rfl HKEY ?_; intro c hat hwc; skip) | (at_mapUpdate; refine wpList_mapUpdate_own _ rfl _ _ _ 174 rfl 3 3 impl_FirstPeriod.law3 Try.underlying174 _ w7.heap.size rv.length (impl_FirstPeriod_D rv) rfl HM.out (by have := LMc.out; unfold maxLen; omega) _ _ _ rfl rfl HKEY _ [] (plainElem_int Try.underlying3 (impl_FirstPeriod.wfn LMc.out)) ?_; intro w8 hown1 hgrow1; replace HM := xA hown1; replace BK0 := xA (blk_grown (by ((with_reducible repeat (first | refine blk_drewN ?_ _ | refine blk_drew ?_ | refine blk_alloc ?_ _)); exact BK0.out)) hgrow1 (fun e_ => HL.out (by cases e_; rfl))); replace HB := xA (HB.out.grown hgrow1 HW.out (fun j hj => by cases hj; exact HW7.out)); replace HW := xA (Nat.le_trans HW.out hgrow1.size); clear hown1 hgrow1 hcz hfz; have hcz := blk_cell BK0.out; have hfz := blk_frozen BK0.out) | (go_at_call 293; (with_reducible refine (impl_First_step.calls k1 a0_0 a0_1 a0_2 a0_3 a0_4 y_1 a2 t3 _ A3.out).mono ?_); rintro e w9 ⟨rfl, hb⟩; replace HM := xA (impl_FirstPeriod.om HM.out hb); replace BK0 := xA (blk_below (by ((with_reducible repeat (first | refine blk_drewN ?_ _ | refine blk_drew ?_ | refine blk_alloc ?_ _)); exact BK0.out)) hb); replace HB := xA (below_step (xB HB.out) hb); replace HW := xA (Nat.le_trans HW.out hb.size); clear hb hcz hfz; have hcz := blk_cell BK0.out; have hfz := blk_frozen BK0.out))
    go_roundg k1
    case measure => have := HK1.out; omega
    case rel => exact ⟨t3, y_1 :: rv, rfl, by (have := LMc.out); simp [wrap64]; omega, H', ⟨Nat.le_of_succ_le HK1.out⟩, ⟨HM.out⟩, ⟨by ((with_reducible repeat (first | refine blk_drewN ?_ _ | refine blk_drew ?_ | refine blk_alloc ?_ _)); exact BK0.out)⟩, ⟨(xB HB.out)⟩, ⟨HW.out⟩⟩

/-! ### laws_uHas: function 112 -/
def laws_uHas.l0 : Nat → Int → List Int → Int → Int → Option (Bool)
 | 0, _, _, _, _ => none
 | k + 1, x1, x7, x8, x9 => if x9 < x8 then (if 0 ≤ x9 then (if x9 < (x7.length : Int) then (if (rd x7 x9) = x1 then (some true) else (laws_uHas.l0 k x1 x7 x8 (wrap64 (x9 + 1)))) else (none)) else (none)) else (some false)
def laws_uHas.f (k : Nat) (l0 : List Int) (a1 : Int) : Option (Bool) := laws_uHas.l0 k a1 l0 (l0.length : Int) 0
theorem laws_uHas.mono_l : ∀ k, (∀ y0 y1 y2 y3, LeO (laws_uHas.l0 k y0 y1 y2 y3) (laws_uHas.l0 (k + 1) y0 y1 y2 y3))
 | 0 => fun _ _ _ _ r h => by simp [laws_uHas.l0] at h
 | k + 1 => by
  have ih0 := laws_uHas.mono_l k
  intros
  unfold laws_uHas.l0
  exact xM
theorem laws_uHas.mono : ∀ a0 a1 k, LeO (laws_uHas.f k a0 a1) (laws_uHas.f (k + 1) a0 a1) := by
 intro a0 a1 k
 have ih0 := laws_uHas.mono_l k
 unfold laws_uHas.f
 exact xM
set_option maxHeartbeats 200000000 in
set_option maxRecDepth 100000 in
theorem laws_uHas.calls (k : Nat) (A0 : Option Addr) (c0 : Nat) (l0 : List Int) (a1 : Int) (r : Bool) (w : World) (hr0 : Kd.C (Kd.int .i64) w A0 l0.length l0) (hc0 : l0.length ≤ c0) (h : laws_uHas.f k l0 a1 = some r) :
  Calls Try.prog 112 #[.slice A0 l0.length c0, .int .i64 a1] w fun e w' => e = .returned (.bool r) ∧ Drawn0 w w' := by
 have HR0 := xA hr0
 have HC0 := xA hc0
 clear hr0 hc0
 have H : (laws_uHas.l0 k a1 l0 (l0.length : Int) 0) = some r := h
 clear h
 have H' := xA H
 clear H
 go_enter Try.func112, Try.ntmps112
 go_wp2
 go_loopg [9] k (fun kq v9 w' => ∃ (x9_1 : Int), v9 = .int .i64 x9_1 ∧ Aside0 (laws_uHas.l0 kq a1 l0 (l0.length : Int) x9_1 = some r) ∧ Aside0 (kq ≤ k) ∧ Drawn0 w w')
 case atStart => exact ⟨(0), xs, H', ⟨Nat.le_refl _⟩, by repeat (first | exact Drawn0.refl _ | apply Drawn0.step)⟩
 case round =>
  clear H'
  obtain ⟨x9_1, rfl, HA, HK1, ⟨m1, rfl⟩⟩ := hrel
  cases gk with
  | zero => exact absurd HA.out (by simp [laws_uHas.l0])
  | succ k1 =>
   have H := HA.out
   clear HA
   simp only [laws_uHas.l0] at H
   by_cases c3 : x9_1 < (l0.length : Int)
   rotate_left
   ·rw [if_neg c3] at H
    have c3b0 : decide (x9_1 < (l0.length : Int)) = false := decide_eq_false c3
    clear c3
    obtain rfl := Option.some.inj H
    go_wp2
    go_ret
    exact ⟨by first | rfl | (simp; done) | (simp [*]; done), by repeat (first | exact Drawn0.refl _ | apply Drawn0.step)⟩

   rw [if_pos c3] at H
   have c3b0 : decide (x9_1 < (l0.length : Int)) = true := decide_eq_true c3
   clear c3
   by_cases c4 : 0 ≤ x9_1
   rotate_left
   ·rw [if_neg c4] at H
    exact absurd H (by simp)
   rw [if_pos c4] at H
   have c4b0 : decide (0 ≤ x9_1) = true := decide_eq_true c4
   clear c4
   by_cases c5 : x9_1 < (l0.length : Int)
   rotate_left
   ·rw [if_neg c5] at H
    exact absurd H (by simp)
   rw [if_pos c5] at H
   have c5b0 : decide (x9_1 < (l0.length : Int)) = true := decide_eq_true c5
   clear c5
   by_cases c6 : (rd l0 x9_1) = a1
   ·rw [if_pos c6] at H
    have c6b0 : ((rd l0 x9_1) == a1) = true := beq_iff_eq.mpr c6
    have c6b1 : ((rd l0 x9_1) != a1) = false := bne_eq_false_iff_eq.mpr c6
    clear c6
    obtain rfl := Option.some.inj H
    have p401 : 0 ≤ (x9_1 : Int) := of_decide_eq_true (by first | (with_reducible assumption) | assumption)
    have q401 : x9_1 < (l0.length : Int) := of_decide_eq_true (by first | (with_reducible assumption) | assumption)
    obtain ⟨ad401, e401, hx401_0⟩ := Kd.at_int HR0.out x9_1 p401 q401
    cases e401
    replace p401 := eq_true p401
    replace q401 := eq_true q401
    go_wp2
    go_ret
    exact ⟨by first | rfl | (simp; done) | (simp [*]; done), by repeat (first | exact Drawn0.refl _ | apply Drawn0.step)⟩
   rw [if_neg c6] at H
   have c6b0 : ((rd l0 x9_1) == a1) = false := beq_eq_false_iff_ne.mpr c6
   have c6b1 : ((rd l0 x9_1) != a1) = true := bne_iff_ne.mpr c6
   have H' := xA H
   clear H
   have p401 : 0 ≤ (x9_1 : Int) := of_decide_eq_true (by first | (with_reducible assumption) | assumption)
   have q401 : x9_1 < (l0.length : Int) := of_decide_eq_true (by first | (with_reducible assumption) | assumption)
   obtain ⟨ad401, e401, hx401_0⟩ := Kd.at_int HR0.out x9_1 p401 q401
   cases e401
   replace p401 := eq_true p401
   replace q401 := eq_true q401
   go_wp2
   go_roundg k1
   case measure => have := HK1.out; omega
   case rel => exact ⟨(wrap64 (x9_1 + 1)), xs, H', ⟨by have := HK1.out; omega⟩, by repeat (first | exact Drawn0.refl _ | apply Drawn0.step)⟩
/-! ### spec_l1Cur_number: function 382 -/
def spec_l1Cur_number.f (s0_0 : List Int) (s0_1 : Int) (s0_2 : Int) : Option (Int × Int × Int) := (spec_l1Cur_pick.f s0_0 s0_1 s0_2 14).bind fun bt402 => (if bt402.1 = 0 then ((spec_l1Cur_among.f s0_0 bt402.2.1 bt402.2.2 (([1000000000000, (-1000000000000), 1000000000001, (-4611686018427387904), 549755813888] : List Int))).bind fun bt408 => (some (bt408.1, bt408.2.1, bt408.2.2))) else (if bt402.1 = 1 then ((spec_l1Cur_pick.f s0_0 bt402.2.1 bt402.2.2 256).bind fun bt411 => ((spec_l1Cur_pick.f s0_0 bt411.2.1 bt411.2.2 256).bind fun bt414 => (some (wrap64 ((wrap64 ((wrap64 ((wrap64 (bt411.1 * 256)) + bt414.1)) * 256)) - 5000000), bt414.2.1, bt414.2.2)))) else ((spec_l1Cur_pick.f s0_0 bt402.2.1 bt402.2.2 200).bind fun bt417 => (some (wrap64 (bt417.1 - 100), bt417.2.1, bt417.2.2)))))
set_option maxHeartbeats 200000000 in
set_option maxRecDepth 100000 in
theorem spec_l1Cur_number.calls (g : Nat) (s0_0 : List Int) (s0_1 : Int) (s0_2 : Int) (r1 : Int) (r2 : Int) (r3 : Int) (w0 w : World) (hI : IsS129 w0 w g s0_0 s0_1 s0_2) (hB : Below w0.heap.size w0 w) (h : spec_l1Cur_number.f s0_0 s0_1 s0_2 = some (r1, r2, r3)) :
  Calls Try.prog 382 #[.pointer (some ⟨g, 0, none⟩)] w fun e w' => e = .returned (.int .i64 r1) ∧ IsS129 w0 w' g s0_0 r2 r3 ∧ Below w0.heap.size w0 w' ∧ KeepBut w w' g none := by
 have HI0 := xA hI
 have HK := xA (KeepBut.refl w g none)
 have HL := xA hB.size
 clear hI
 have HW0 := xA hB.size
 have HB := xA hB
 clear hB
 have H : ((spec_l1Cur_pick.f s0_0 s0_1 s0_2 14).bind fun bt402 => (if bt402.1 = 0 then ((spec_l1Cur_among.f s0_0 bt402.2.1 bt402.2.2 (([1000000000000, (-1000000000000), 1000000000001, (-4611686018427387904), 549755813888] : List Int))).bind fun bt408 => (some (bt408.1, bt408.2.1, bt408.2.2))) else (if bt402.1 = 1 then ((spec_l1Cur_pick.f s0_0 bt402.2.1 bt402.2.2 256).bind fun bt411 => ((spec_l1Cur_pick.f s0_0 bt411.2.1 bt411.2.2 256).bind fun bt414 => (some (wrap64 ((wrap64 ((wrap64 ((wrap64 (bt411.1 * 256)) + bt414.1)) * 256)) - 5000000), bt414.2.1, bt414.2.2)))) else ((spec_l1Cur_pick.f s0_0 bt402.2.1 bt402.2.2 200).bind fun bt417 => (some (wrap64 (bt417.1 - 100), bt417.2.1, bt417.2.2)))))) = some (r1, r2, r3) := h
 clear h
 replace H := Option.bind_eq_some_iff.mp H
 obtain ⟨⟨t402, t403, t404⟩, A20, H⟩ := H
 (try dsimp only at H)
 have A2 := xA A20
 clear A20
 by_cases c3 : t402 = 0
 ·rw [if_pos c3] at H
  have c3b0 : (t402 == 0) = true := beq_iff_eq.mpr c3
  have c3b1 : (t402 != 0) = false := bne_eq_false_iff_eq.mpr c3
  clear c3
  obtain ⟨y405, hy405⟩ : ∃ y_ : List Int, y_ = (([1000000000000, (-1000000000000), 1000000000001, (-4611686018427387904), 549755813888] : List Int)) := ⟨_, rfl⟩
  replace H : ((spec_l1Cur_among.f s0_0 t403 t404 y405).bind fun bt408 => (some (bt408.1, bt408.2.1, bt408.2.2))) = some (r1, r2, r3) := by first | (rw [hy405]; with_reducible exact H) | (have H2_ := (Option.bind_some _ _).symm.trans H; rw [hy405]; with_reducible exact H2_) | (have H2_ := (Option.bind_some _ _).symm.trans H; with_reducible exact H2_) | with_reducible exact H | (rw [hy405]; exact H) | exact H
  have Ny405 := xA hy405
  clear hy405
  replace H := Option.bind_eq_some_iff.mp H
  obtain ⟨⟨t408, t409, t410⟩, A40, H⟩ := H
  (try dsimp only at H)
  have A4 := xA A40
  clear A40
  simp only [Option.some.injEq, Prod.mk.injEq] at H
  obtain ⟨rfl, rfl, rfl⟩ := H
  go_enter Try.func382, Try.ntmps382
  go_wp2_with (first | (refine xq rfl ?_; first | (refine xG (some 4) Try.func229 #[.pointer (some ⟨g, 0, none⟩), .int .i64 14] ?_; (with_reducible refine (spec_l1Cur_pick.calls g s0_0 s0_1 s0_2 14 t402 t403 t404 w0 _ ?side1 ?side2 A2.out).mono ?_); (case side1 => exact xJ129_12_0 HI0.out); (case side2 => exact xB1 (IsS129.ge HI0.out) HB.out); rintro e w5 ⟨rfl, hi, hb, hk⟩; refine ⟨_, rfl, ?_⟩; replace HK := xA (KeepBut.trans (xH0 HK.out) hk (.inl rfl)); replace HB := xA (hb); replace HI0 := xA (hi); (try clear hb hk hi)) | (refine xG (some 9) Try.func228 #[.pointer (some ⟨g, 0, none⟩), .slice Ao8 y405.length co8] ?_; (with_reducible refine (spec_l1Cur_among.calls g s0_0 t403 t404 _ _ y405 t408 t409 t410 w0 _ ?side1 ?side2 ?side3 ?side4 ?side5 A4.out).mono ?_); (case side1 => exact xJ129_12_0 HI0.out); (case side2 => exact xB1 (IsS129.ge HI0.out) HB.out); (case side3 => exact xC ((Kd.R_reads' HO407.out).2.2)); (case side4 => exact (Kd.R_reads' HO407.out).2.1); (case side5 => exact far_slice (IsS129.own_ne HI0.out HO407.out (by decide))); rintro e w9 ⟨rfl, hi, hb, hk⟩; refine ⟨_, rfl, ?_⟩; replace HO407 := xA (Kd.R_mono (Kd.R_keep (IsS129.apart (show IsS129 w0 _ g s0_0 t403 t404 from xJ129_12_0 HI0.out) (xR HO407.out) (by decide)) hk (fun _ h => h.2)) (fun _ h => h.1)); replace HK := xA (KeepBut.trans (xH0 HK.out) hk (.inl rfl)); replace HB := xA (hb); replace HI0 := xA (hi); (try clear hb hk hi))) | ((with_reducible refine gate_dst (N := 8) rfl ?_); refine Kd.R_lit (Kd.int .i64) _ 3 ?hg (N := 8) ?hd (xs := ([1000000000000, (-1000000000000), 1000000000001, (-4611686018427387904), 549755813888] : List Int)) (inner := [.int .i64 1000000000000, .int .i64 (-1000000000000), .int .i64 1000000000001, .int .i64 (-4611686018427387904), .int .i64 549755813888]) (ok := fun _ => True) (okp := fun _ => True) ?hr ?hp (fun _ hk => hk) trivial (Below.refl _ _) (Nat.le_refl _) (by simp) ?_; (case hd => rfl); (case hg => rfl); (case hr => first | (go_simp; done) | (go_simp; rfl)); (case hp => exact (Reps.one (show Kd.M (Kd.int .i64) _ _ _ 1000000000000 [.int .i64 1000000000000] from rfl) (Reps.one (show Kd.M (Kd.int .i64) _ _ _ (-1000000000000) [.int .i64 (-1000000000000)] from rfl) (Reps.one (show Kd.M (Kd.int .i64) _ _ _ 1000000000001 [.int .i64 1000000000001] from rfl) (Reps.one (show Kd.M (Kd.int .i64) _ _ _ (-4611686018427387904) [.int .i64 (-4611686018427387904)] from rfl) (Reps.one (show Kd.M (Kd.int .i64) _ _ _ 549755813888 [.int .i64 549755813888] from rfl) (Reps.none _ _))))))); intro v406 w6 ho7 hb hg_ hnew_; clear hg_ hnew_; (first | rw [← Ny405.out] at ho7 | (simp only [Int.reduceToNat] at ho7; rw [← Ny405.out] at ho7)); have HO407 := xA (Kd.R_lower ho7 (keep_size (w := w) (g := g) (row := none) (xH0 HK.out))); replace HK := xA (KeepBut.trans (xH0 HK.out) (KeepBut.of_below hb g none) (.inl rfl)); replace HB := xA (below_step (xB1 (IsS129.ge HI0.out) HB.out) hb); replace HI0 := xA (IsS129.below (xJ129_12_0 HI0.out) hb); clear hb ho7; obtain ⟨Ao8, co8, eo8⟩ := Kd.R_slice HO407.out; subst eo8))
  go_ret
  exact ⟨xr, xJ129_12_0 HI0.out, xB1 (IsS129.ge HI0.out) HB.out, xH0 HK.out⟩
 rw [if_neg c3] at H
 have c3b0 : (t402 == 0) = false := beq_eq_false_iff_ne.mpr c3
 have c3b1 : (t402 != 0) = true := bne_iff_ne.mpr c3
 by_cases c10 : t402 = 1
 rotate_left
 ·rw [if_neg c10] at H
  have c10b0 : (t402 == 1) = false := beq_eq_false_iff_ne.mpr c10
  have c10b1 : (t402 != 1) = true := bne_iff_ne.mpr c10
  replace H := Option.bind_eq_some_iff.mp H
  obtain ⟨⟨t417, t418, t419⟩, A160, H⟩ := H
  (try dsimp only at H)
  have A16 := xA A160
  clear A160
  simp only [Option.some.injEq, Prod.mk.injEq] at H
  obtain ⟨rfl, rfl, rfl⟩ := H
  go_enter Try.func382, Try.ntmps382
  go_wp2_with (first | (refine xq rfl ?_; first | (refine xG (some 4) Try.func229 #[.pointer (some ⟨g, 0, none⟩), .int .i64 14] ?_; (with_reducible refine (spec_l1Cur_pick.calls g s0_0 s0_1 s0_2 14 t402 t403 t404 w0 _ ?side1 ?side2 A2.out).mono ?_); (case side1 => exact xJ129_12_0 HI0.out); (case side2 => exact xB1 (IsS129.ge HI0.out) HB.out); rintro e w17 ⟨rfl, hi, hb, hk⟩; refine ⟨_, rfl, ?_⟩; replace HK := xA (KeepBut.trans (xH0 HK.out) hk (.inl rfl)); replace HB := xA (hb); replace HI0 := xA (hi); (try clear hb hk hi)) | (refine xG (some 21) Try.func229 #[.pointer (some ⟨g, 0, none⟩), .int .i64 200] ?_; (with_reducible refine (spec_l1Cur_pick.calls g s0_0 t403 t404 200 t417 t418 t419 w0 _ ?side1 ?side2 A16.out).mono ?_); (case side1 => exact xJ129_12_0 HI0.out); (case side2 => exact xB1 (IsS129.ge HI0.out) HB.out); rintro e w18 ⟨rfl, hi, hb, hk⟩; refine ⟨_, rfl, ?_⟩; replace HK := xA (KeepBut.trans (xH0 HK.out) hk (.inl rfl)); replace HB := xA (hb); replace HI0 := xA (hi); (try clear hb hk hi))))
  go_ret
  exact ⟨xr, xJ129_12_0 HI0.out, xB1 (IsS129.ge HI0.out) HB.out, xH0 HK.out⟩

 rw [if_pos c10] at H
 have c10b0 : (t402 == 1) = true := beq_iff_eq.mpr c10
 have c10b1 : (t402 != 1) = false := bne_eq_false_iff_eq.mpr c10
 clear c10
 replace H := Option.bind_eq_some_iff.mp H
 obtain ⟨⟨t411, t412, t413⟩, A110, H⟩ := H
 (try dsimp only at H)
 have A11 := xA A110
 clear A110
 replace H := Option.bind_eq_some_iff.mp H
 obtain ⟨⟨t414, t415, t416⟩, A120, H⟩ := H
 (try dsimp only at H)
 have A12 := xA A120
 clear A120
 simp only [Option.some.injEq, Prod.mk.injEq] at H
 obtain ⟨rfl, rfl, rfl⟩ := H
 go_enter Try.func382, Try.ntmps382
 go_wp2_with (first | (refine xq rfl ?_; first | (refine xG (some 4) Try.func229 #[.pointer (some ⟨g, 0, none⟩), .int .i64 14] ?_; (with_reducible refine (spec_l1Cur_pick.calls g s0_0 s0_1 s0_2 14 t402 t403 t404 w0 _ ?side1 ?side2 A2.out).mono ?_); (case side1 => exact xJ129_12_0 HI0.out); (case side2 => exact xB1 (IsS129.ge HI0.out) HB.out); rintro e w13 ⟨rfl, hi, hb, hk⟩; refine ⟨_, rfl, ?_⟩; replace HK := xA (KeepBut.trans (xH0 HK.out) hk (.inl rfl)); replace HB := xA (hb); replace HI0 := xA (hi); (try clear hb hk hi)) | (refine xG (some 13) Try.func229 #[.pointer (some ⟨g, 0, none⟩), .int .i64 256] ?_; (with_reducible refine (spec_l1Cur_pick.calls g s0_0 t403 t404 256 t411 t412 t413 w0 _ ?side1 ?side2 A11.out).mono ?_); (case side1 => exact xJ129_12_0 HI0.out); (case side2 => exact xB1 (IsS129.ge HI0.out) HB.out); rintro e w14 ⟨rfl, hi, hb, hk⟩; refine ⟨_, rfl, ?_⟩; replace HK := xA (KeepBut.trans (xH0 HK.out) hk (.inl rfl)); replace HB := xA (hb); replace HI0 := xA (hi); (try clear hb hk hi)) | (refine xG (some 16) Try.func229 #[.pointer (some ⟨g, 0, none⟩), .int .i64 256] ?_; (with_reducible refine (spec_l1Cur_pick.calls g s0_0 t412 t413 256 t414 t415 t416 w0 _ ?side1 ?side2 A12.out).mono ?_); (case side1 => exact xJ129_12_0 HI0.out); (case side2 => exact xB1 (IsS129.ge HI0.out) HB.out); rintro e w15 ⟨rfl, hi, hb, hk⟩; refine ⟨_, rfl, ?_⟩; replace HK := xA (KeepBut.trans (xH0 HK.out) hk (.inl rfl)); replace HB := xA (hb); replace HI0 := xA (hi); (try clear hb hk hi))))
 go_ret
 exact ⟨xr, xJ129_12_0 HI0.out, xB1 (IsS129.ge HI0.out) HB.out, xH0 HK.out⟩
/-! ### spec_l1Cur_inWord: function 282 -/
def spec_l1Cur_inWord.j0 : Nat → Bool → List Int → Int → Int → Int → Bool → Option (Int × Int × Int)
 | 0, _, _, _, _, _, _ => none
 | k + 1, x11, x1000, x1001, x1002, x421000, x421001 => if x11 = true then ((spec_l1Cur_number.f x1000 x1001 x1002).bind fun bt425 => (some (bt425.1, bt425.2.1, bt425.2.2))) else ((spec_l1Cur_pick.f x1000 x1001 x1002 5).bind fun bt428 => (if bt428.1 = 0 then ((spec_wdLow.f x421000 x421001).bind fun t431 => (some (t431, bt428.2.1, bt428.2.2))) else (if bt428.1 = 1 then ((spec_wdHigh.f x421000 x421001).bind fun t432 => (some (t432, bt428.2.1, bt428.2.2))) else ((spec_wdLow.f x421000 x421001).bind fun t433 => ((spec_l1Cur_pick.f x1000 bt428.2.1 bt428.2.2 256).bind fun bt434 => (if 0 ≤ x421000 then (if (shl .i64 1 x421000) = 0 then (none) else (some (wrap64 (t433 + (Int.tmod (wrap64 (bt434.1 * 257)) (shl .i64 1 x421000))), bt434.2.1, bt434.2.2))) else (none)))))))
def spec_l1Cur_inWord.f (k : Nat) (s0_0 : List Int) (s0_1 : Int) (s0_2 : Int) (a1_0 : Int) (a1_1 : Bool) : Option (Int × Int × Int) := (spec_wdGood.f a1_0 a1_1).bind fun t421 => (if t421 = true then ((spec_l1Cur_one.f s0_0 s0_1 s0_2 12).bind fun bt422 => (spec_l1Cur_inWord.j0 k bt422.1 s0_0 bt422.2.1 bt422.2.2 a1_0 a1_1)) else (spec_l1Cur_inWord.j0 k true s0_0 s0_1 s0_2 a1_0 a1_1))
theorem spec_l1Cur_inWord.mono_l : ∀ k, (∀ y0 y1 y2 y3 y4 y5, LeO (spec_l1Cur_inWord.j0 k y0 y1 y2 y3 y4 y5) (spec_l1Cur_inWord.j0 (k + 1) y0 y1 y2 y3 y4 y5))
 | 0 => fun _ _ _ _ _ _ r h => by simp [spec_l1Cur_inWord.j0] at h
 | k + 1 => by
  have ih0 := spec_l1Cur_inWord.mono_l k
  intros
  unfold spec_l1Cur_inWord.j0
  exact xM
theorem spec_l1Cur_inWord.mono : ∀ a0 a1 a2 a3 a4 k, LeO (spec_l1Cur_inWord.f k a0 a1 a2 a3 a4) (spec_l1Cur_inWord.f (k + 1) a0 a1 a2 a3 a4) := by
 intro a0 a1 a2 a3 a4 k
 have ih0 := spec_l1Cur_inWord.mono_l k
 unfold spec_l1Cur_inWord.f
 exact xM
def spec_l1Cur_inWord.T8 : Bool × List (List Nat × List Nat) := (true, [([], []), ([0], [0]), ([], []), ([2, 1], [2]), ([3], [3]), ([], []), ([5], [5]), ([6], [6]), ([4, 7], [4, 7]), ([1, 8], [1, 8]), ([9, 3, 0, 1, 2, 3, 4, 5, 6, 7, 8, 9], [9])])
def spec_l1Cur_inWord.B8 : List Nat := [0, 1, 0, 7, 15, 0, 32, 96, 255, 511, 1023]
theorem spec_l1Cur_inWord.tab8 : rtab .any (opsOf Try.f282 8) = spec_l1Cur_inWord.T8 := by kernel_rfl
theorem spec_l1Cur_inWord.bits8 : waitsOk spec_l1Cur_inWord.T8.2 spec_l1Cur_inWord.B8 = true := by kernel_rfl
set_option maxHeartbeats 200000000 in
set_option maxRecDepth 100000 in
theorem spec_l1Cur_inWord.calls (k : Nat) (g : Nat) (s0_0 : List Int) (s0_1 : Int) (s0_2 : Int) (a1_0 : Int) (a1_1 : Bool) (r1 : Int) (r2 : Int) (r3 : Int) (w0 w : World) (hI : IsS129 w0 w g s0_0 s0_1 s0_2) (hB : Below w0.heap.size w0 w) (h : spec_l1Cur_inWord.f k s0_0 s0_1 s0_2 a1_0 a1_1 = some (r1, r2, r3)) :
  Calls Try.prog 282 #[.pointer (some ⟨g, 0, none⟩), .agg #[.int .i64 a1_0, .bool a1_1]] w fun e w' => e = .returned (.int .i64 r1) ∧ IsS129 w0 w' g s0_0 r2 r3 ∧ Below w0.heap.size w0 w' ∧ KeepBut w w' g none := by
 have hu46 := Try.underlying46
 have HI0 := xA hI
 have HK := xA (KeepBut.refl w g none)
 have HL := xA hB.size
 clear hI
 have HW0 := xA hB.size
 have HB := xA hB
 clear hB
 have H : ((spec_wdGood.f a1_0 a1_1).bind fun t421 => (if t421 = true then ((spec_l1Cur_one.f s0_0 s0_1 s0_2 12).bind fun bt422 => (spec_l1Cur_inWord.j0 k bt422.1 s0_0 bt422.2.1 bt422.2.2 a1_0 a1_1)) else (spec_l1Cur_inWord.j0 k true s0_0 s0_1 s0_2 a1_0 a1_1))) = some (r1, r2, r3) := h
 clear h
 have HC3 := xA H
 clear H
 go_enter Try.func282, Try.ntmps282
 go_upto_region 1 with (first | (refine xg 3 rfl ?_; refine xV 3 #[.int .i64 a1_0, .bool a1_1] 46 ?_; intro gb420 hg w4 hbox hb; replace HB := xA (below_step (xB1 (IsS129.ge HI0.out) HB.out) hb); have BK420 := xA (hbox); have GW420 := xA ((by rw [hg]; exact (keep_size (w := w) (g := g) (row := none) (xH0 HK.out)) : w.heap.size ≤ gb420)); have GE420 := xA ((Nat.le_trans HW0.out (by rw [hg]; exact (keep_size (w := w) (g := g) (row := none) (xH0 HK.out)) : w.heap.size ≤ gb420) : w0.heap.size ≤ gb420)); replace HK := xA (KeepBut.trans (xH0 HK.out) (KeepBut.of_below hb g none) (.inl rfl)); have NB0_420 := xA ((by rw [hg]; exact Nat.ne_of_lt (IsS129.lt (show IsS129 w0 _ g s0_0 s0_1 s0_2 from xJ129_12_0 HI0.out)) : g ≠ gb420)); have NB420_0 := xA ((by rw [hg]; exact Nat.ne_of_gt (IsS129.lt (show IsS129 w0 _ g s0_0 s0_1 s0_2 from xJ129_12_0 HI0.out)) : gb420 ≠ g)); replace HI0 := xA (IsS129.below (xJ129_12_0 HI0.out) hb); clear hb hbox hg))
 (try simp only [Act.put, List.setIfInBounds_toArray, List.set_cons_zero, List.set_cons_succ])
 go_cut [11] from 5 to 5 (fun v11 wc => ∃ (kq : Nat) (x11_2 : Bool) (x1001_2 : Int) (x1002_2 : Int), v11 = .bool x11_2 ∧ Aside0 (spec_l1Cur_inWord.j0 kq x11_2 s0_0 x1001_2 x1002_2 a1_0 a1_1 = some (r1, r2, r3)) ∧ Aside0 (kq ≤ k) ∧ Aside0 (wc.heap[gb420]? = some (.cells #[.int .i64 a1_0, .bool a1_1] 46 (0, 0))) ∧ Aside0 (IsS129 w0 wc g s0_0 x1001_2 x1002_2) ∧ Aside0 (KeepBut w wc g none) ∧ Aside0 (Below w0.heap.size w0 wc))
 case first => as_aux_lemma =>
  have H := HC3.out
  clear HC3
  obtain ⟨t421, A5, H⟩ := xO H
  (try dsimp only at H)
  by_cases c6 : t421 = true
  rotate_left
  ·replace c6 := Bool.eq_false_iff.mpr c6
   subst c6
   rw [if_neg (show ¬ (false = true) by decide)] at H
   have H' := xA H
   clear H
   have hnb12 := NB420_0.out
   have hnc12 := NB0_420.out
   replace hz420 := blk_cell BK420.out; replace hy420 := blk_frozen BK420.out
   go_wp2_with (first | (refine xG (some 6) Try.func267 #[.agg #[.int .i64 a1_0, .bool a1_1]] ?_; (with_reducible refine (spec_wdGood.calls a1_0 a1_1 false _ A5.out).mono ?_); rintro e w14 ⟨rfl, hb⟩; refine ⟨_, rfl, ?_⟩; replace BK420 := xkb BK420 hb; replace HK := xA (KeepBut.trans (xH1 GW420.out HK.out) (KeepBut.of_below hb g none) (.inl rfl)); replace HB := xA (below_step (xB2 (IsS129.ge HI0.out) GE420.out HB.out) hb); replace HI0 := xA (IsS129.below (xJ129_12_1 NB0_420.out HI0.out) hb); (try clear hb)))
   go_meet
   case rel => exact ⟨_, (true), (s0_1), (s0_2), xs, H', ⟨by first | omega | exact Nat.le_refl _⟩, ⟨xK BK420.out⟩, ⟨xJ129_12_1 NB0_420.out HI0.out⟩, ⟨xH1 GW420.out HK.out⟩, ⟨xB2 (IsS129.ge HI0.out) GE420.out HB.out⟩⟩
  subst c6
  rw [if_pos rfl] at H
  replace H := Option.bind_eq_some_iff.mp H
  obtain ⟨⟨t422, t423, t424⟩, A70, H⟩ := H
  (try dsimp only at H)
  have A7 := xA A70
  clear A70
  have H' := xA H
  clear H
  have hnb8 := NB420_0.out
  have hnc8 := NB0_420.out
  replace hz420 := blk_cell BK420.out; replace hy420 := blk_frozen BK420.out
  go_wp2_with (first | (refine xG (some 6) Try.func267 #[.agg #[.int .i64 a1_0, .bool a1_1]] ?_; (with_reducible refine (spec_wdGood.calls a1_0 a1_1 true _ A5.out).mono ?_); rintro e w10 ⟨rfl, hb⟩; refine ⟨_, rfl, ?_⟩; replace BK420 := xkb BK420 hb; replace HK := xA (KeepBut.trans (xH1 GW420.out HK.out) (KeepBut.of_below hb g none) (.inl rfl)); replace HB := xA (below_step (xB2 (IsS129.ge HI0.out) GE420.out HB.out) hb); replace HI0 := xA (IsS129.below (xJ129_12_1 NB0_420.out HI0.out) hb); (try clear hb)) | (go_at_call 227; (with_reducible refine (spec_l1Cur_one.calls g s0_0 s0_1 s0_2 12 t422 t423 t424 w0 _ ?side1 ?side2 A7.out).mono ?_); (case side1 => exact xJ129_12_1 NB0_420.out HI0.out); (case side2 => exact xB2 (IsS129.ge HI0.out) GE420.out HB.out); rintro e w11 ⟨rfl, hi, hb, hk⟩; replace BK420 := xkk hk BK420 NB420_0; replace HK := xA (KeepBut.trans (xH1 GW420.out HK.out) hk (.inl rfl)); replace HB := xA (hb); replace HI0 := xA (hi); (try clear hb hk hi)))
  go_meet
  case rel => exact ⟨_, (t422), (t423), (t424), xs, H', ⟨by first | omega | exact Nat.le_refl _⟩, ⟨xK BK420.out⟩, ⟨xJ129_12_1 NB0_420.out HI0.out⟩, ⟨xH1 GW420.out HK.out⟩, ⟨xB2 (IsS129.ge HI0.out) GE420.out HB.out⟩⟩
 case rest => as_aux_lemma =>
  clear HC3
  obtain ⟨kq, x11_2, x1001_2, x1002_2, rfl, HA, HJ2, BK420, HI0, HK, HB⟩ := hcut
  cases kq with
  | zero => exact absurd HA.out (by simp [spec_l1Cur_inWord.j0])
  | succ kj2 =>
   have H := HA.out
   clear HA
   simp only [spec_l1Cur_inWord.j0] at H
   by_cases c15 : x11_2 = true
   ·subst c15
    rw [if_pos rfl] at H
    replace H := Option.bind_eq_some_iff.mp H
    obtain ⟨⟨t425, t426, t427⟩, A160, H⟩ := H
    (try dsimp only at H)
    have A16 := xA A160
    clear A160
    simp only [Option.some.injEq, Prod.mk.injEq] at H
    obtain ⟨rfl, rfl, rfl⟩ := H
    go_wp2_with (first | (refine xG (some 13) Try.func382 #[.pointer (some ⟨g, 0, none⟩)] ?_; (with_reducible refine (spec_l1Cur_number.calls g s0_0 x1001_2 x1002_2 t425 t426 t427 w0 _ ?side1 ?side2 A16.out).mono ?_); (case side1 => exact xJ129_12_1 NB0_420.out HI0.out); (case side2 => exact xB2 (IsS129.ge HI0.out) GE420.out HB.out); rintro e w17 ⟨rfl, hi, hb, hk⟩; refine ⟨_, rfl, ?_⟩; replace BK420 := xkk hk BK420 NB420_0; replace HK := xA (KeepBut.trans (xH1 GW420.out HK.out) hk (.inl rfl)); replace HB := xA (hb); replace HI0 := xA (hi); (try clear hb hk hi)))
    go_ret
    exact ⟨xr, xJ129_12_1 NB0_420.out HI0.out, xB2 (IsS129.ge HI0.out) GE420.out HB.out, xH1 GW420.out HK.out⟩
   replace c15 := Bool.eq_false_iff.mpr c15
   subst c15
   rw [if_neg (show ¬ (false = true) by decide)] at H
   replace H := Option.bind_eq_some_iff.mp H
   obtain ⟨⟨t428, t429, t430⟩, A180, H⟩ := H
   (try dsimp only at H)
   have A18 := xA A180
   clear A180
   by_cases c19 : t428 = 0
   ·rw [if_pos c19] at H
    have c19b0 : (t428 == 0) = true := beq_iff_eq.mpr c19
    have c19b1 : (t428 != 0) = false := bne_eq_false_iff_eq.mpr c19
    clear c19
    obtain ⟨t431, A20, H⟩ := xO H
    (try dsimp only at H)
    simp only [Option.some.injEq, Prod.mk.injEq] at H
    obtain ⟨rfl, rfl, rfl⟩ := H
    go_wp2_with (first | (refine xq rfl ?_; first | (refine xG (some 15) Try.func229 #[.pointer (some ⟨g, 0, none⟩), .int .i64 5] ?_; (with_reducible refine (spec_l1Cur_pick.calls g s0_0 x1001_2 x1002_2 5 t428 t429 t430 w0 _ ?side1 ?side2 A18.out).mono ?_); (case side1 => exact xJ129_12_1 NB0_420.out HI0.out); (case side2 => exact xB2 (IsS129.ge HI0.out) GE420.out HB.out); rintro e w21 ⟨rfl, hi, hb, hk⟩; refine ⟨_, rfl, ?_⟩; replace BK420 := xkk hk BK420 NB420_0; replace HK := xA (KeepBut.trans (xH1 GW420.out HK.out) hk (.inl rfl)); replace HB := xA (hb); replace HI0 := xA (hi); (try clear hb hk hi); have hnb22 := NB420_0.out; have hnc22 := NB0_420.out; replace hz420 := blk_cell BK420.out; replace hy420 := blk_frozen BK420.out) | (refine xG (some 19) Try.func268 #[.agg #[.int .i64 a1_0, .bool a1_1]] ?_; (with_reducible refine (spec_wdLow.calls a1_0 a1_1 t431 _ A20.out).mono ?_); rintro e w24 ⟨rfl, hb⟩; refine ⟨_, rfl, ?_⟩; replace BK420 := xkb BK420 hb; replace HK := xA (KeepBut.trans (xH1 GW420.out HK.out) (KeepBut.of_below hb g none) (.inl rfl)); replace HB := xA (below_step (xB2 (IsS129.ge HI0.out) GE420.out HB.out) hb); replace HI0 := xA (IsS129.below (xJ129_12_1 NB0_420.out HI0.out) hb); (try clear hb))))
    go_ret
    exact ⟨xr, xJ129_12_1 NB0_420.out HI0.out, xB2 (IsS129.ge HI0.out) GE420.out HB.out, xH1 GW420.out HK.out⟩
   rw [if_neg c19] at H
   have c19b0 : (t428 == 0) = false := beq_eq_false_iff_ne.mpr c19
   have c19b1 : (t428 != 0) = true := bne_iff_ne.mpr c19
   by_cases c25 : t428 = 1
   ·rw [if_pos c25] at H
    have c25b0 : (t428 == 1) = true := beq_iff_eq.mpr c25
    have c25b1 : (t428 != 1) = false := bne_eq_false_iff_eq.mpr c25
    clear c25
    obtain ⟨t432, A26, H⟩ := xO H
    (try dsimp only at H)
    simp only [Option.some.injEq, Prod.mk.injEq] at H
    obtain ⟨rfl, rfl, rfl⟩ := H
    go_wp2_with (first | (refine xq rfl ?_; first | (refine xG (some 15) Try.func229 #[.pointer (some ⟨g, 0, none⟩), .int .i64 5] ?_; (with_reducible refine (spec_l1Cur_pick.calls g s0_0 x1001_2 x1002_2 5 t428 t429 t430 w0 _ ?side1 ?side2 A18.out).mono ?_); (case side1 => exact xJ129_12_1 NB0_420.out HI0.out); (case side2 => exact xB2 (IsS129.ge HI0.out) GE420.out HB.out); rintro e w27 ⟨rfl, hi, hb, hk⟩; refine ⟨_, rfl, ?_⟩; replace BK420 := xkk hk BK420 NB420_0; replace HK := xA (KeepBut.trans (xH1 GW420.out HK.out) hk (.inl rfl)); replace HB := xA (hb); replace HI0 := xA (hi); (try clear hb hk hi); have hnb28 := NB420_0.out; have hnc28 := NB0_420.out; replace hz420 := blk_cell BK420.out; replace hy420 := blk_frozen BK420.out) | (refine xG (some 23) Try.func269 #[.agg #[.int .i64 a1_0, .bool a1_1]] ?_; (with_reducible refine (spec_wdHigh.calls a1_0 a1_1 t432 _ A26.out).mono ?_); rintro e w30 ⟨rfl, hb⟩; refine ⟨_, rfl, ?_⟩; replace BK420 := xkb BK420 hb; replace HK := xA (KeepBut.trans (xH1 GW420.out HK.out) (KeepBut.of_below hb g none) (.inl rfl)); replace HB := xA (below_step (xB2 (IsS129.ge HI0.out) GE420.out HB.out) hb); replace HI0 := xA (IsS129.below (xJ129_12_1 NB0_420.out HI0.out) hb); (try clear hb))))
    go_ret
    exact ⟨xr, xJ129_12_1 NB0_420.out HI0.out, xB2 (IsS129.ge HI0.out) GE420.out HB.out, xH1 GW420.out HK.out⟩
   rw [if_neg c25] at H
   have c25b0 : (t428 == 1) = false := beq_eq_false_iff_ne.mpr c25
   have c25b1 : (t428 != 1) = true := bne_iff_ne.mpr c25
   obtain ⟨t433, A31, H⟩ := xO H
   (try dsimp only at H)
   replace H := Option.bind_eq_some_iff.mp H
   obtain ⟨⟨t434, t435, t436⟩, A320, H⟩ := H
   (try dsimp only at H)
   have A32 := xA A320
   clear A320
   by_cases c33 : 0 ≤ a1_0
   rotate_left
   ·rw [if_neg c33] at H
    exact absurd H (by simp)

   rw [if_pos c33] at H
   have c33b0 := eq_true c33
   have c33b1 : decide (0 ≤ a1_0) = true := decide_eq_true c33
   clear c33
   obtain ⟨ji34, hji34⟩ : ∃ j_ : Int, (shl .i64 1 a1_0) = j_ := ⟨_, rfl⟩
   (first | rw [hji34] at H | simp only [hji34] at H)
   (try rw [hji34] at A18)
   (try rw [hji34] at A31)
   (try rw [hji34] at A32)
   have hji34_ : (IntKind.i64.wrap (1 * 2 ^ min a1_0.toNat 64)) = ji34 := hji34
   have hji34z : a1_0 ≤ 64 → (IntKind.i64.wrap (1 * 2 ^ a1_0.toNat)) = ji34 := shl_small hji34
   have hji34u : (IntKind.i64.wrap (2 ^ min a1_0.toNat 64)) = ji34 := by have h_ := hji34_; rw [Int.one_mul] at h_; exact h_
   have hji34v : a1_0 ≤ 64 → (IntKind.i64.wrap (2 ^ a1_0.toNat)) = ji34 := fun hle_ => by have h_ := hji34z hle_; rw [Int.one_mul] at h_; exact h_
   have hji34y : (wrap64 (1 * 2 ^ min a1_0.toNat 64)) = ji34 := (i64_w _).symm.trans hji34_
   have hji34x : a1_0 ≤ 64 → (wrap64 (1 * 2 ^ a1_0.toNat)) = ji34 := fun h_ => (i64_w _).symm.trans (hji34z h_)
   by_cases c35 : (ji34) = 0
   ·rw [if_pos c35] at H
    exact absurd H (by simp)
   rw [if_neg c35] at H
   have c35b0 : ((ji34) == 0) = false := beq_eq_false_iff_ne.mpr c35
   have c35b1 : ((ji34) != 0) = true := bne_iff_ne.mpr c35
   simp only [Option.some.injEq, Prod.mk.injEq] at H
   obtain ⟨rfl, rfl, rfl⟩ := H
   try go_wp2_with (first | (refine xG (some 15) Try.func229 #[.pointer (some ⟨g, 0, none⟩), .int .i64 5] ?_; (with_reducible refine (spec_l1Cur_pick.calls g s0_0 x1001_2 x1002_2 5 t428 t429 t430 w0 _ ?side1 ?side2 A18.out).mono ?_); (case side1 => exact xJ129_12_1 NB0_420.out HI0.out); (case side2 => exact xB2 (IsS129.ge HI0.out) GE420.out HB.out); rintro e w36 ⟨rfl, hi, hb, hk⟩; refine ⟨_, rfl, ?_⟩; replace BK420 := xkk hk BK420 NB420_0; replace HK := xA (KeepBut.trans (xH1 GW420.out HK.out) hk (.inl rfl)); replace HB := xA (hb); replace HI0 := xA (hi); (try clear hb hk hi)))
   replace BK420 := xA (blk_drew BK420.out)
   replace HI0 := xA (IsS129.drew HI0.out)
   replace HK := xA (keep_drew HK.out)
   replace HB := xA (below_drew1 HB.out)
   refine start_ (n := 11) (S := fun w' => w'.cell? ⟨gb420, 0, none⟩ = some (.int .i64 a1_0) ∧ w'.cell? ⟨gb420, 1, none⟩ = some (.bool a1_1)) (ds := []) x9a0 (by kernel_rfl) rfl rfl ⟨(blk_cell BK420.out 0).trans rfl, (blk_cell BK420.out 1).trans rfl⟩ (fun hHeld => ?_); refine with_tabW spec_l1Cur_inWord.tab8 spec_l1Cur_inWord.bits8 (fun HT_ HW_ => ?_)
   generalize w36.drew = w37 at BK420 HI0 HK HB hHeld ⊢
   refine xP 2 26 x9a1 ?_
   refine xP 5 29 x9a2 ?_
   refine xT2 hHeld 0 24 x9a3 ?_
   refine xT2 hHeld 6 30 x9a4 ?_
   refine xP 7 31 x9a5 ?_
   refine xU 1 25 x9a6 (fun K hK => ?_)
   refine xY Try.func268 #[.agg #[.int .i64 a1_0, .bool a1_1]] ?_
   with_reducible refine (spec_wdLow.calls a1_0 a1_1 t433 _ A31.out).mono ?_
   rintro e w38 ⟨rfl, hb⟩
   refine ⟨_, rfl, ?_⟩
   replace BK420 := xkb BK420 hb
   replace HK := xA (KeepBut.trans (xH1 GW420.out HK.out) (KeepBut.of_below hb g none) (.inl rfl))
   replace HB := xA (below_step (xB2 (IsS129.ge HI0.out) GE420.out HB.out) hb)
   replace HI0 := xA (IsS129.below (xJ129_12_1 NB0_420.out HI0.out) hb)
   (try clear hb); (try clear hb2); (try clear hk); (try clear hi)
   refine hK.out _ _ ⟨(blk_cell BK420.out 0).trans rfl, (blk_cell BK420.out 1).trans rfl⟩ (fun hHeld => ?_)
   clear hK K
   refine xN ?_
   refine xU 3 27 x9a7 (fun K hK => ?_)
   refine xY Try.func229 #[.pointer (some ⟨g, 0, none⟩), .int .i64 256] ?_
   with_reducible refine (spec_l1Cur_pick.calls g s0_0 t429 t430 256 t434 t435 t436 w0 _ ?side1 ?side2 A32.out).mono ?_
   (case side1 => exact xJ129_12_1 NB0_420.out HI0.out)
   (case side2 => exact xB2 (IsS129.ge HI0.out) GE420.out HB.out)
   rintro e w39 ⟨rfl, hi, hb, hk⟩
   refine ⟨_, rfl, ?_⟩
   replace BK420 := xkk hk BK420 NB420_0
   replace HK := xA (KeepBut.trans (xH1 GW420.out HK.out) hk (.inl rfl))
   replace HB := xA (hb)
   replace HI0 := xA (hi)
   (try clear hb); (try clear hb2); (try clear hk); (try clear hi)
   refine hK.out _ _ ⟨(blk_cell BK420.out 0).trans rfl, (blk_cell BK420.out 1).trans rfl⟩ (fun hHeld => ?_)
   clear hK K
   refine xN ?_
   refine xP 4 28 x9a8 ?_
   refine xP 8 32 x9a9 ?_
   refine xP 9 33 x9a10 ?_
   refine xP 10 4 x9a11 ?_
   refine xDn ?_
   try go_wp2
   go_ret
   exact ⟨by first | rfl | (simp [errW_none, errW_some] <;> rfl) | (simp only [← hji34]; first | rfl | (simp [errW_none, errW_some] <;> rfl)) | (simp [*, errW_none, errW_some] <;> rfl), xJ129_12_1 NB0_420.out HI0.out, xB2 (IsS129.ge HI0.out) GE420.out HB.out, xH1 GW420.out HK.out⟩
end Go.Proofs.Ytjplcongellcmaa.PFnFirstCycles
