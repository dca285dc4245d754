/- What each Go function that the statement FnPairsRun reaches answers, proved call by call. No condition beyond those that the theorems print. (Written by wip/tools/xprint.py of this repo, over the kit's print.) -/
import Derived.Test.YtjplcongellcmaaPFnPairsRunx0
import Derived.Test.YtjplcongellcmaaPFnPairsRunx2
import Derived.Test.YtjplcongellcmaaPFnPairsRunx5
namespace Go.Proofs.Ytjplcongellcmaa.PFnPairsRun
open Go.RowKit Go.Proofs.YtjplcongellcmaaW.PrintWords Go.Proofs.YtjplcongellcmaaW.PrintLast Go.Proofs.YtjplcongellcmaaW.PrintMore
attribute [local go_sem] max2_int min2_int max_two min_two max_three min_three max_four min_four   -- for this text's walks alone
set_option linter.unusedVariables false
set_option linter.unusedSimpArgs false
def x13a0 : Array Bool := #[Zz,Zz,Zz,Zz,Zz,Zz,Zz,Zz,Zz,Zz,Zz,Zz,Zz,Zz,Zz,Zz,Zz,Zz,Zz,Zz,Zz,Zz,Zz,Zz,Zz,Zz,Zz,Zz,Zz]
def x13a1 : Array Bool := #[Yy,Zz,Zz,Zz,Zz,Zz,Zz,Zz,Zz,Zz,Zz,Zz,Zz,Zz,Zz,Zz,Zz,Zz,Zz,Zz,Zz,Zz,Zz,Zz,Zz,Zz,Zz,Zz,Zz]
def x13a2 : Array Bool := #[Yy,Zz,Yy,Zz,Zz,Zz,Zz,Zz,Zz,Zz,Zz,Zz,Zz,Zz,Zz,Zz,Zz,Zz,Zz,Zz,Zz,Zz,Zz,Zz,Zz,Zz,Zz,Zz,Zz]
def x13a3 : Array Bool := #[Yy,Zz,Yy,Zz,Zz,Yy,Zz,Zz,Zz,Zz,Zz,Zz,Zz,Zz,Zz,Zz,Zz,Zz,Zz,Zz,Zz,Zz,Zz,Zz,Zz,Zz,Zz,Zz,Zz]
def x13a4 : Array Bool := #[Yy,Zz,Yy,Zz,Zz,Yy,Zz,Yy,Zz,Zz,Zz,Zz,Zz,Zz,Zz,Zz,Zz,Zz,Zz,Zz,Zz,Zz,Zz,Zz,Zz,Zz,Zz,Zz,Zz]
def x13a5 : Array Bool := #[Yy,Zz,Yy,Zz,Zz,Yy,Zz,Yy,Zz,Zz,Zz,Yy,Zz,Zz,Zz,Zz,Zz,Zz,Zz,Zz,Zz,Zz,Zz,Zz,Zz,Zz,Zz,Zz,Zz]
def x13a6 : Array Bool := #[Yy,Zz,Yy,Zz,Zz,Yy,Zz,Yy,Zz,Zz,Zz,Yy,Zz,Zz,Yy,Zz,Zz,Zz,Zz,Zz,Zz,Zz,Zz,Zz,Zz,Zz,Zz,Zz,Zz]
def x13a7 : Array Bool := #[Yy,Zz,Yy,Zz,Zz,Yy,Zz,Yy,Zz,Zz,Zz,Yy,Zz,Zz,Yy,Zz,Zz,Yy,Zz,Zz,Zz,Zz,Zz,Zz,Zz,Zz,Zz,Zz,Zz]
def x13a8 : Array Bool := #[Yy,Zz,Yy,Zz,Zz,Yy,Zz,Yy,Zz,Zz,Zz,Yy,Zz,Zz,Yy,Zz,Zz,Yy,Zz,Yy,Zz,Zz,Zz,Zz,Zz,Zz,Zz,Zz,Zz]
def x13a9 : Array Bool := #[Yy,Zz,Yy,Zz,Zz,Yy,Zz,Yy,Zz,Zz,Zz,Yy,Zz,Zz,Yy,Zz,Zz,Yy,Zz,Yy,Zz,Zz,Yy,Zz,Zz,Zz,Zz,Zz,Zz]
def x13a10 : Array Bool := #[Yy,Zz,Yy,Zz,Zz,Yy,Zz,Yy,Zz,Zz,Zz,Yy,Zz,Zz,Yy,Zz,Zz,Yy,Zz,Yy,Zz,Zz,Yy,Zz,Yy,Zz,Zz,Zz,Zz]
def x13a11 : Array Bool := #[Yy,Yy,Yy,Zz,Zz,Yy,Zz,Yy,Zz,Zz,Zz,Yy,Zz,Zz,Yy,Zz,Zz,Yy,Zz,Yy,Zz,Zz,Yy,Zz,Yy,Zz,Zz,Zz,Zz]
def x13a12 : Array Bool := #[Yy,Yy,Yy,Yy,Zz,Yy,Zz,Yy,Zz,Zz,Zz,Yy,Zz,Zz,Yy,Zz,Zz,Yy,Zz,Yy,Zz,Zz,Yy,Zz,Yy,Zz,Zz,Zz,Zz]
def x13a13 : Array Bool := #[Yy,Yy,Yy,Yy,Yy,Yy,Zz,Yy,Zz,Zz,Zz,Yy,Zz,Zz,Yy,Zz,Zz,Yy,Zz,Yy,Zz,Zz,Yy,Zz,Yy,Zz,Zz,Zz,Zz]
def x13a14 : Array Bool := #[Yy,Yy,Yy,Yy,Yy,Yy,Yy,Yy,Zz,Zz,Zz,Yy,Zz,Zz,Yy,Zz,Zz,Yy,Zz,Yy,Zz,Zz,Yy,Zz,Yy,Zz,Zz,Zz,Zz]
def x13a15 : Array Bool := #[Yy,Yy,Yy,Yy,Yy,Yy,Yy,Yy,Yy,Zz,Zz,Yy,Zz,Zz,Yy,Zz,Zz,Yy,Zz,Yy,Zz,Zz,Yy,Zz,Yy,Zz,Zz,Zz,Zz]
def x13a16 : Array Bool := #[Yy,Yy,Yy,Yy,Yy,Yy,Yy,Yy,Yy,Yy,Zz,Yy,Zz,Zz,Yy,Zz,Zz,Yy,Zz,Yy,Zz,Zz,Yy,Zz,Yy,Zz,Zz,Zz,Zz]
def x13a17 : Array Bool := #[Yy,Yy,Yy,Yy,Yy,Yy,Yy,Yy,Yy,Yy,Yy,Yy,Zz,Zz,Yy,Zz,Zz,Yy,Zz,Yy,Zz,Zz,Yy,Zz,Yy,Zz,Zz,Zz,Zz]
def x13a18 : Array Bool := #[Yy,Yy,Yy,Yy,Yy,Yy,Yy,Yy,Yy,Yy,Yy,Yy,Yy,Zz,Yy,Zz,Zz,Yy,Zz,Yy,Zz,Zz,Yy,Zz,Yy,Zz,Zz,Zz,Zz]
def x13a19 : Array Bool := #[Yy,Yy,Yy,Yy,Yy,Yy,Yy,Yy,Yy,Yy,Yy,Yy,Yy,Yy,Yy,Zz,Zz,Yy,Zz,Yy,Zz,Zz,Yy,Zz,Yy,Zz,Zz,Zz,Zz]
def x13a20 : Array Bool := #[Yy,Yy,Yy,Yy,Yy,Yy,Yy,Yy,Yy,Yy,Yy,Yy,Yy,Yy,Yy,Yy,Zz,Yy,Zz,Yy,Zz,Zz,Yy,Zz,Yy,Zz,Zz,Zz,Zz]
def x13a21 : Array Bool := #[Yy,Yy,Yy,Yy,Yy,Yy,Yy,Yy,Yy,Yy,Yy,Yy,Yy,Yy,Yy,Yy,Yy,Yy,Zz,Yy,Zz,Zz,Yy,Zz,Yy,Zz,Zz,Zz,Zz]
def x13a22 : Array Bool := #[Yy,Yy,Yy,Yy,Yy,Yy,Yy,Yy,Yy,Yy,Yy,Yy,Yy,Yy,Yy,Yy,Yy,Yy,Yy,Yy,Zz,Zz,Yy,Zz,Yy,Zz,Zz,Zz,Zz]
def x13a23 : Array Bool := #[Yy,Yy,Yy,Yy,Yy,Yy,Yy,Yy,Yy,Yy,Yy,Yy,Yy,Yy,Yy,Yy,Yy,Yy,Yy,Yy,Yy,Zz,Yy,Zz,Yy,Zz,Zz,Zz,Zz]
def x13a24 : Array Bool := #[Yy,Yy,Yy,Yy,Yy,Yy,Yy,Yy,Yy,Yy,Yy,Yy,Yy,Yy,Yy,Yy,Yy,Yy,Yy,Yy,Yy,Yy,Yy,Zz,Yy,Zz,Zz,Zz,Zz]
def x13a25 : Array Bool := #[Yy,Yy,Yy,Yy,Yy,Yy,Yy,Yy,Yy,Yy,Yy,Yy,Yy,Yy,Yy,Yy,Yy,Yy,Yy,Yy,Yy,Yy,Yy,Yy,Yy,Zz,Zz,Zz,Zz]
def x13a26 : Array Bool := #[Yy,Yy,Yy,Yy,Yy,Yy,Yy,Yy,Yy,Yy,Yy,Yy,Yy,Yy,Yy,Yy,Yy,Yy,Yy,Yy,Yy,Yy,Yy,Yy,Yy,Yy,Zz,Zz,Zz]
def x13a27 : Array Bool := #[Yy,Yy,Yy,Yy,Yy,Yy,Yy,Yy,Yy,Yy,Yy,Yy,Yy,Yy,Yy,Yy,Yy,Yy,Yy,Yy,Yy,Yy,Yy,Yy,Yy,Yy,Yy,Zz,Zz]
def x13a28 : Array Bool := #[Yy,Yy,Yy,Yy,Yy,Yy,Yy,Yy,Yy,Yy,Yy,Yy,Yy,Yy,Yy,Yy,Yy,Yy,Yy,Yy,Yy,Yy,Yy,Yy,Yy,Yy,Yy,Yy,Zz]
def x13a29 : Array Bool := #[Yy,Yy,Yy,Yy,Yy,Yy,Yy,Yy,Yy,Yy,Yy,Yy,Yy,Yy,Yy,Yy,Yy,Yy,Yy,Yy,Yy,Yy,Yy,Yy,Yy,Yy,Yy,Yy,Yy]

/-! ### impl_SecondOfFirsts: function 146 -/
def impl_SecondOfFirsts.j0 : Nat → Bool → Int → Int → Int → Int → Bool → Int → Int → Int → Int → Bool → Option (Int × Int × Int × Int × Int × Bool × Bool)
 | 0, _, _, _, _, _, _, _, _, _, _, _ => none
 | k + 1, x14, x480000, x480001, x480002, x480003, x480004, x481000, x481001, x481002, x481003, x481004 => if x14 = true then (some (0, 0, 0, 0, 0, false, false)) else (if 0 ≤ x481001 then (if 0 ≤ x480001 then ((impl_isSecond.f (wrap64 ((shl .i64 x480000 x481001) + (shl .i64 x481000 x480001))) (wrap64 ((wrap64 (-x480000)) * x481000)) (wrap64 (x480001 + x481001)) x480002 x480003 x480004).bind fun t485 => (if t485 = true then (some (wrap64 ((shl .i64 x480000 x481001) + (shl .i64 x481000 x480001)), wrap64 ((wrap64 (-x480000)) * x481000), wrap64 (x480001 + x481001), x480002, x480003, x480004, true)) else (some (0, 0, 0, 0, 0, false, false)))) else (none)) else (none))
def impl_SecondOfFirsts.f (k : Nat) (a0_0 : Int) (a0_1 : Int) (a0_2 : Int) (a0_3 : Int) (a0_4 : Bool) (a1_0 : Int) (a1_1 : Int) (a1_2 : Int) (a1_3 : Int) (a1_4 : Bool) : Option (Int × Int × Int × Int × Int × Bool × Bool) := (impl_isFirst.f a0_0 a0_1 a0_2 a0_3 a0_4).bind fun t482 => (if t482 = true then ((impl_isFirst.f a1_0 a1_1 a1_2 a1_3 a1_4).bind fun t483 => (impl_SecondOfFirsts.j0 k (!t483) a0_0 a0_1 a0_2 a0_3 a0_4 a1_0 a1_1 a1_2 a1_3 a1_4)) else (impl_SecondOfFirsts.j0 k true a0_0 a0_1 a0_2 a0_3 a0_4 a1_0 a1_1 a1_2 a1_3 a1_4))
theorem impl_SecondOfFirsts.mono_l : ∀ k, (∀ y0 y1 y2 y3 y4 y5 y6 y7 y8 y9 y10, LeO (impl_SecondOfFirsts.j0 k y0 y1 y2 y3 y4 y5 y6 y7 y8 y9 y10) (impl_SecondOfFirsts.j0 (k + 1) y0 y1 y2 y3 y4 y5 y6 y7 y8 y9 y10))
 | 0 => fun _ _ _ _ _ _ _ _ _ _ _ r h => by simp [impl_SecondOfFirsts.j0] at h
 | k + 1 => by
  have ih0 := impl_SecondOfFirsts.mono_l k
  intros
  unfold impl_SecondOfFirsts.j0
  exact xM
theorem impl_SecondOfFirsts.mono : ∀ a0 a1 a2 a3 a4 a5 a6 a7 a8 a9 k, LeO (impl_SecondOfFirsts.f k a0 a1 a2 a3 a4 a5 a6 a7 a8 a9) (impl_SecondOfFirsts.f (k + 1) a0 a1 a2 a3 a4 a5 a6 a7 a8 a9) := by
 intro a0 a1 a2 a3 a4 a5 a6 a7 a8 a9 k
 have ih0 := impl_SecondOfFirsts.mono_l k
 unfold impl_SecondOfFirsts.f
 exact xM
def impl_SecondOfFirsts.T3 : Bool × List (List Nat × List Nat) := (true, [([], []), ([0], [0]), ([], []), ([2], [2]), ([1, 3], [1, 3]), ([], []), ([5], [5]), ([], []), ([7], [7]), ([6, 8], [6, 8]), ([4, 9], [4, 9]), ([], []), ([11], [11]), ([12], [12]), ([], []), ([14], [14]), ([13, 15], [13, 15]), ([], []), ([17], [17]), ([], []), ([19], [19]), ([18, 20], [18, 20]), ([], []), ([22], [22]), ([], []), ([24], [24]), ([10, 16, 21, 23, 25], [10, 16, 21, 23, 25]), ([], []), ([27, 26, 0, 1, 2, 3, 4, 5, 6, 7, 8, 9, 10, 11, 12, 13, 14, 15, 16, 17, 18, 19, 20, 21, 22, 23, 24, 25, 26, 27], [26, 27])])
def impl_SecondOfFirsts.B3 : List Nat := [0, 1, 0, 4, 15, 0, 32, 0, 128, 480, 1023, 0, 2048, 6144, 0, 16384, 63488, 0, 131072, 0, 524288, 1966080, 0, 4194304, 0, 16777216, 67108863, 0, 268435455]
theorem impl_SecondOfFirsts.tab3 : rtab .any (opsOf Try.f146 3) = impl_SecondOfFirsts.T3 := by kernel_rfl
theorem impl_SecondOfFirsts.bits3 : waitsOk impl_SecondOfFirsts.T3.2 impl_SecondOfFirsts.B3 = true := by kernel_rfl
set_option maxHeartbeats 200000000 in
set_option maxRecDepth 100000 in
theorem impl_SecondOfFirsts.calls (k : Nat) (a0_0 : Int) (a0_1 : Int) (a0_2 : Int) (a0_3 : Int) (a0_4 : Bool) (a1_0 : Int) (a1_1 : Int) (a1_2 : Int) (a1_3 : Int) (a1_4 : Bool) (r1 : Int) (r2 : Int) (r3 : Int) (r4 : Int) (r5 : Int) (r6 : Bool) (r7 : Bool) (w : World) (h : impl_SecondOfFirsts.f k a0_0 a0_1 a0_2 a0_3 a0_4 a1_0 a1_1 a1_2 a1_3 a1_4 = some (r1, r2, r3, r4, r5, r6, r7)) :
  Calls Try.prog 146 #[.agg #[.int .i64 a0_0, .int .i64 a0_1, .int .i64 a0_2, .int .i64 a0_3, .bool a0_4], .agg #[.int .i64 a1_0, .int .i64 a1_1, .int .i64 a1_2, .int .i64 a1_3, .bool a1_4]] w fun e w' => e = .returned (.tuple #[.agg #[.int .i64 r1, .int .i64 r2, .int .i64 r3, .int .i64 r4, .int .i64 r5, .bool r6], .bool r7]) ∧ Below w.heap.size w w' := by
 have hu62 := Try.underlying62
 have hu91 := Try.underlying91
 have hu46 := Try.underlying46
 have HB := xA (Below.refl w.heap.size w)
 have H : ((impl_isFirst.f a0_0 a0_1 a0_2 a0_3 a0_4).bind fun t482 => (if t482 = true then ((impl_isFirst.f a1_0 a1_1 a1_2 a1_3 a1_4).bind fun t483 => (impl_SecondOfFirsts.j0 k (!t483) a0_0 a0_1 a0_2 a0_3 a0_4 a1_0 a1_1 a1_2 a1_3 a1_4)) else (impl_SecondOfFirsts.j0 k true a0_0 a0_1 a0_2 a0_3 a0_4 a1_0 a1_1 a1_2 a1_3 a1_4))) = some (r1, r2, r3, r4, r5, r6, r7) := h
 clear h
 have HC3 := xA H
 clear H
 all_goals
  go_enter Try.func146, Try.ntmps146
  go_upto_region 1 with (first | (refine xg 2 rfl ?_; refine xV 2 #[.int .i64 a0_0, .int .i64 a0_1, .int .i64 a0_2, .int .i64 a0_3, .bool a0_4] 62 ?_; intro gb479 hg w4 hbox hb; have BK479 := xA (hbox); have GW479 := xgw hg (below_size (xB HB.out)); have GE479 := GW479; replace HB := xA (below_step (xB HB.out) hb); clear hb hbox hg) | (refine xg 3 rfl ?_; refine xV 3 #[.int .i64 a1_0, .int .i64 a1_1, .int .i64 a1_2, .int .i64 a1_3, .bool a1_4] 62 ?_; intro gb480 hg w5 hbox hb; have BK480 := xA (hbox); have GW480 := xgw hg (below_size (xB1 GE479.out HB.out)); have GE480 := GW480; replace HB := xA (below_step (xB1 GE479.out HB.out) hb); have NB479_480 := xnl hg BK479; have NB480_479 := xng hg BK479; replace BK479 := xkb BK479 hb; clear hb hbox hg) | (refine xg 4 rfl ?_; refine xV 4 #[.int .i64 0, .int .i64 0, .int .i64 0, .int .i64 0, .int .i64 0, .bool false] 91 ?_; intro gb481 hg w6 hbox hb; have BK481 := xA (hbox); have GW481 := xgw hg (below_size (xB2 GE479.out GE480.out HB.out)); have GE481 := GW481; replace HB := xA (below_step (xB2 GE479.out GE480.out HB.out) hb); have NB479_481 := xnl hg BK479; have NB481_479 := xng hg BK479; replace BK479 := xkb BK479 hb; have NB480_481 := xnl hg BK480; have NB481_480 := xng hg BK480; replace BK480 := xkb BK480 hb; clear hb hbox hg))
  (try simp only [Act.put, List.setIfInBounds_toArray, List.set_cons_zero, List.set_cons_succ])
  go_cut [14] from 7 to 7 (fun v14 wc => ∃ (kq : Nat) (x14_2 : Bool), v14 = .bool x14_2 ∧ Aside0 (impl_SecondOfFirsts.j0 kq x14_2 a0_0 a0_1 a0_2 a0_3 a0_4 a1_0 a1_1 a1_2 a1_3 a1_4 = some (r1, r2, r3, r4, r5, r6, r7)) ∧ Aside0 (kq ≤ k) ∧ Aside0 (wc.heap[gb479]? = some (.cells #[.int .i64 a0_0, .int .i64 a0_1, .int .i64 a0_2, .int .i64 a0_3, .bool a0_4] 62 (0, 0))) ∧ Aside0 (wc.heap[gb480]? = some (.cells #[.int .i64 a1_0, .int .i64 a1_1, .int .i64 a1_2, .int .i64 a1_3, .bool a1_4] 62 (0, 0))) ∧ Aside0 (wc.heap[gb481]? = some (.cells #[.int .i64 0, .int .i64 0, .int .i64 0, .int .i64 0, .int .i64 0, .bool false] 91 (0, 0))) ∧ Aside0 (Below w.heap.size w wc))
  case first => as_aux_lemma =>
   have H := HC3.out
   clear HC3
   obtain ⟨t482, A7, H⟩ := xO H
   (try dsimp only at H)
   by_cases c8 : t482 = true
   rotate_left
   ·replace c8 := Bool.eq_false_iff.mpr c8
    subst c8
    rw [if_neg (show ¬ (false = true) by decide)] at H
    have H' := xA H
    clear H
    have hnb17 := NB479_480.out
    have hnc17 := NB480_479.out
    have hnb18 := NB479_481.out
    have hnc18 := NB481_479.out
    replace hz479 := blk_cell BK479.out; replace hy479 := blk_frozen BK479.out
    go_wp2_with (first | (refine xG (some 8) Try.func294 #[.agg #[.int .i64 a0_0, .int .i64 a0_1, .int .i64 a0_2, .int .i64 a0_3, .bool a0_4]] ?_; (with_reducible refine (impl_isFirst.calls a0_0 a0_1 a0_2 a0_3 a0_4 false _ A7.out).mono ?_); rintro e w20 ⟨rfl, hb⟩; refine ⟨_, rfl, ?_⟩; replace BK479 := xkb BK479 hb; replace BK480 := xkb BK480 hb; replace BK481 := xkb BK481 hb; replace HB := xA (below_step (xB3 GE479.out GE480.out GE481.out HB.out) hb); (try clear hb)))
    go_meet
    case rel => exact ⟨_, (true), xs, H', ⟨by first | omega | exact Nat.le_refl _⟩, ⟨xK BK479.out⟩, ⟨xK BK480.out⟩, ⟨xK BK481.out⟩, ⟨xB3 GE479.out GE480.out GE481.out HB.out⟩⟩
   subst c8
   rw [if_pos rfl] at H
   obtain ⟨t483, A9, H⟩ := xO H
   (try dsimp only at H)
   have H' := xA H
   clear H
   have hnb10 := NB479_480.out
   have hnc10 := NB480_479.out
   have hnb11 := NB479_481.out
   have hnc11 := NB481_479.out
   replace hz479 := blk_cell BK479.out; replace hy479 := blk_frozen BK479.out
   go_wp2_with (first | (refine xG (some 8) Try.func294 #[.agg #[.int .i64 a0_0, .int .i64 a0_1, .int .i64 a0_2, .int .i64 a0_3, .bool a0_4]] ?_; (with_reducible refine (impl_isFirst.calls a0_0 a0_1 a0_2 a0_3 a0_4 true _ A7.out).mono ?_); rintro e w13 ⟨rfl, hb⟩; refine ⟨_, rfl, ?_⟩; replace BK479 := xkb BK479 hb; replace BK480 := xkb BK480 hb; replace BK481 := xkb BK481 hb; replace HB := xA (below_step (xB3 GE479.out GE480.out GE481.out HB.out) hb); (try clear hb); have hnb14 := NB480_481.out; have hnc14 := NB481_480.out; replace hz480 := blk_cell BK480.out; replace hy480 := blk_frozen BK480.out) | (go_at_call 294; (with_reducible refine (impl_isFirst.calls a1_0 a1_1 a1_2 a1_3 a1_4 t483 _ A9.out).mono ?_); rintro e w16 ⟨rfl, hb⟩; replace BK479 := xkb BK479 hb; replace BK480 := xkb BK480 hb; replace BK481 := xkb BK481 hb; replace HB := xA (below_step (xB3 GE479.out GE480.out GE481.out HB.out) hb); (try clear hb)))
   go_meet
   case rel => exact ⟨_, (!t483), xs, H', ⟨by first | omega | exact Nat.le_refl _⟩, ⟨xK BK479.out⟩, ⟨xK BK480.out⟩, ⟨xK BK481.out⟩, ⟨xB3 GE479.out GE480.out GE481.out HB.out⟩⟩
  case rest =>
   clear HC3
   obtain ⟨kq, x14_2, rfl, HA, HJ2, BK479, BK480, BK481, HB⟩ := hcut
   cases kq with
   | zero => exact absurd HA.out (by simp [impl_SecondOfFirsts.j0])
   | succ kj2 =>
    have H := HA.out
    clear HA
    simp only [impl_SecondOfFirsts.j0] at H
    by_cases c21 : x14_2 = true
    ·subst c21
     rw [if_pos rfl] at H
     simp only [Option.some.injEq, Prod.mk.injEq] at H
     obtain ⟨rfl, rfl, rfl, rfl, rfl, rfl, rfl⟩ := H
     have hnb22 := NB481_479.out
     have hnc22 := NB479_481.out
     have hnb23 := NB481_480.out
     have hnc23 := NB480_481.out
     replace hz481 := blk_cell BK481.out; replace hy481 := blk_frozen BK481.out
     go_wp2
     refine bodyPost_ret (results_ct rfl _ _ gb481 91 #[.int .i64 0, .int .i64 0, .int .i64 0, .int .i64 0, .int .i64 0, .bool false] (0, 0) _ rfl (xPt0 BK481.out) Try.underlying91 rfl (by kernel_rfl)) rfl ?_
     exact ⟨xr, xB3 GE479.out GE480.out GE481.out HB.out⟩
    replace c21 := Bool.eq_false_iff.mpr c21
    subst c21
    rw [if_neg (show ¬ (false = true) by decide)] at H
    by_cases c25 : 0 ≤ a1_1
    rotate_left
    ·rw [if_neg c25] at H
     exact absurd H (by simp)
 
    rw [if_pos c25] at H
    have c25b0 := eq_true c25
    have c25b1 : decide (0 ≤ a1_1) = true := decide_eq_true c25
    clear c25
    obtain ⟨ji26, hji26⟩ : ∃ j_ : Int, (shl .i64 a0_0 a1_1) = j_ := ⟨_, rfl⟩
    (first | rw [hji26] at H | simp only [hji26] at H)
    obtain ⟨hji26_, hji26z, hji26y, hji26x⟩ := xSh hji26
    by_cases c27 : 0 ≤ a0_1
    rotate_left
    ·rw [if_neg c27] at H
     exact absurd H (by simp)
    rw [if_pos c27] at H
    have c27b0 := eq_true c27
    have c27b1 : decide (0 ≤ a0_1) = true := decide_eq_true c27
    clear c27
    obtain ⟨ji28, hji28⟩ : ∃ j_ : Int, (shl .i64 a1_0 a0_1) = j_ := ⟨_, rfl⟩
    (first | rw [hji28] at H | simp only [hji28] at H)
    obtain ⟨hji28_, hji28z, hji28y, hji28x⟩ := xSh hji28
    obtain ⟨t485, A29, H⟩ := xO H
    (try dsimp only at H)
    by_cases c30 : t485 = true
    ·subst c30
     rw [if_pos rfl] at H
     simp only [Option.some.injEq, Prod.mk.injEq] at H
     obtain ⟨rfl, rfl, rfl, rfl, rfl, rfl, rfl⟩ := H
     try go_wp2
     replace BK479 := xA (blk_drew BK479.out)
     replace BK480 := xA (blk_drew BK480.out)
     replace BK481 := xA (blk_drew BK481.out)
     replace HB := xA (below_drew1 HB.out)
     refine start_ (n := 29) (S := fun w' => w'.cell? ⟨gb479, 0, none⟩ = some (.int .i64 a0_0) ∧ w'.cell? ⟨gb479, 1, none⟩ = some (.int .i64 a0_1) ∧ w'.cell? ⟨gb479, 2, none⟩ = some (.int .i64 a0_2) ∧ w'.cell? ⟨gb479, 3, none⟩ = some (.int .i64 a0_3) ∧ w'.cell? ⟨gb479, 4, none⟩ = some (.bool a0_4) ∧ w'.cell? ⟨gb480, 0, none⟩ = some (.int .i64 a1_0) ∧ w'.cell? ⟨gb480, 1, none⟩ = some (.int .i64 a1_1) ∧ w'.cell? ⟨gb480, 2, none⟩ = some (.int .i64 a1_2) ∧ w'.cell? ⟨gb480, 3, none⟩ = some (.int .i64 a1_3) ∧ w'.cell? ⟨gb480, 4, none⟩ = some (.bool a1_4)) (ds := []) x13a0 (by kernel_rfl) rfl rfl ⟨(blk_cell BK479.out 0).trans rfl, (blk_cell BK479.out 1).trans rfl, (blk_cell BK479.out 2).trans rfl, (blk_cell BK479.out 3).trans rfl, (blk_cell BK479.out 4).trans rfl, (blk_cell BK480.out 0).trans rfl, (blk_cell BK480.out 1).trans rfl, (blk_cell BK480.out 2).trans rfl, (blk_cell BK480.out 3).trans rfl, (blk_cell BK480.out 4).trans rfl⟩ (fun hHeld => ?_); refine with_tabW impl_SecondOfFirsts.tab3 impl_SecondOfFirsts.bits3 (fun HT_ HW_ => ?_)
     generalize wc.drew = w31 at BK479 BK480 BK481 HB hHeld ⊢
     refine xP 0 16 x13a1 ?_
     refine xP 2 18 x13a2 ?_
     refine xP 5 21 x13a3 ?_
     refine xP 7 23 x13a4 ?_
     refine xP 11 27 x13a5 ?_
     refine xP 14 30 x13a6 ?_
     refine xP 17 33 x13a7 ?_
     refine xP 19 35 x13a8 ?_
     refine xP 22 38 x13a9 ?_
     refine xP 24 40 x13a10 ?_
     refine xT10 hHeld 1 17 x13a11 ?_
     refine xT10 hHeld 3 19 x13a12 ?_
     refine xP 4 20 x13a13 ?_
     refine xT10 hHeld 6 22 x13a14 ?_
     refine xT10 hHeld 8 24 x13a15 ?_
     refine xP 9 25 x13a16 ?_
     refine xP 10 26 x13a17 ?_
     refine xT10 hHeld 12 28 x13a18 ?_
     refine xP 13 29 x13a19 ?_
     refine xT10 hHeld 15 31 x13a20 ?_
     refine xP 16 32 x13a21 ?_
     refine xT10 hHeld 18 34 x13a22 ?_
     refine xT10 hHeld 20 36 x13a23 ?_
     refine xP 21 37 x13a24 ?_
     refine xT10 hHeld 23 39 x13a25 ?_
     refine xT10 hHeld 25 41 x13a26 ?_
     refine xP 26 42 x13a27 ?_
     refine xU 27 6 x13a28 (fun K hK => ?_)
     refine box_step ?hg (N := 6) ?hd (cs := #[.int .i64 0, .int .i64 0, .int .i64 0, .int .i64 0, .int .i64 0, .bool false]) (t := 91) ?hr ?_; (case hd => rfl); (case hg => rfl); (case hr => first | (go_simp; done) | (go_simp; rfl))
     intro gb484 hg w32 hbox hb
     have BK484 := xA (hbox)
     have GW484 := xgw hg (below_size (xB3 GE479.out GE480.out GE481.out HB.out))
     have GE484 := GW484
     replace HB := xA (below_step (xB3 GE479.out GE480.out GE481.out HB.out) hb)
     have NB479_484 := xnl hg BK479
     have NB484_479 := xng hg BK479
     replace BK479 := xkb BK479 hb
     have NB480_484 := xnl hg BK480
     have NB484_480 := xng hg BK480
     replace BK480 := xkb BK480 hb
     have NB481_484 := xnl hg BK481
     have NB484_481 := xng hg BK481
     replace BK481 := xkb BK481 hb
     clear hb hbox hg
     refine hK.out _ _ ⟨(blk_cell BK479.out 0).trans rfl, (blk_cell BK479.out 1).trans rfl, (blk_cell BK479.out 2).trans rfl, (blk_cell BK479.out 3).trans rfl, (blk_cell BK479.out 4).trans rfl, (blk_cell BK480.out 0).trans rfl, (blk_cell BK480.out 1).trans rfl, (blk_cell BK480.out 2).trans rfl, (blk_cell BK480.out 3).trans rfl, (blk_cell BK480.out 4).trans rfl⟩ (fun hHeld => ?_)
     clear hK K
     refine xN ?_
     refine one_ (i := 28) (N := none) x13a29 rfl rfl (one_of HT_.out (by kernel_rfl)) (by decide) (fun K hK => ?_)
     have hs33 : w32.cell? ⟨gb484, 0, none⟩ = some (.int .i64 0) := (blk_cell BK484.out 0).trans rfl
     have hfs33 := blk_frozen BK484.out 0
     have hns33_0 := NB479_484.out
     have hns33_1 := NB480_484.out
     have hns33_2 := NB481_484.out
     have hms33_0 := NB484_479.out
     have hms33_1 := NB484_480.out
     have hms33_2 := NB484_481.out
     have hs34 : w32.cell? ⟨gb484, 1, none⟩ = some (.int .i64 0) := (blk_cell BK484.out 1).trans rfl
     have hfs34 := blk_frozen BK484.out 1
     have hns34_0 := NB479_484.out
     have hns34_1 := NB480_484.out
     have hns34_2 := NB481_484.out
     have hms34_0 := NB484_479.out
     have hms34_1 := NB484_480.out
     have hms34_2 := NB484_481.out
     have hs35 : w32.cell? ⟨gb484, 2, none⟩ = some (.int .i64 0) := (blk_cell BK484.out 2).trans rfl
     have hfs35 := blk_frozen BK484.out 2
     have hns35_0 := NB479_484.out
     have hns35_1 := NB480_484.out
     have hns35_2 := NB481_484.out
     have hms35_0 := NB484_479.out
     have hms35_1 := NB484_480.out
     have hms35_2 := NB484_481.out
     have hs36 : w32.cell? ⟨gb484, 3, none⟩ = some (.int .i64 0) := (blk_cell BK484.out 3).trans rfl
     have hfs36 := blk_frozen BK484.out 3
     have hns36_0 := NB479_484.out
     have hns36_1 := NB480_484.out
     have hns36_2 := NB481_484.out
     have hms36_0 := NB484_479.out
     have hms36_1 := NB484_480.out
     have hms36_2 := NB484_481.out
     have hs37 : w32.cell? ⟨gb484, 4, none⟩ = some (.int .i64 0) := (blk_cell BK484.out 4).trans rfl
     have hfs37 := blk_frozen BK484.out 4
     have hns37_0 := NB479_484.out
     have hns37_1 := NB480_484.out
     have hns37_2 := NB481_484.out
     have hms37_0 := NB484_479.out
     have hms37_1 := NB484_480.out
     have hms37_2 := NB484_481.out
     have hs38 : w32.cell? ⟨gb484, 5, none⟩ = some (.bool false) := (blk_cell BK484.out 5).trans rfl
     have hfs38 := blk_frozen BK484.out 5
     have hns38_0 := NB479_484.out
     have hns38_1 := NB480_484.out
     have hns38_2 := NB481_484.out
     have hms38_0 := NB484_479.out
     have hms38_1 := NB484_480.out
     have hms38_2 := NB484_481.out
     refine skip_ (w1 := ?_) (by rfl) rfl ?_ ?_
     rotate_left
     ·go_simp
      rfl
     refine hK.out _ _ ⟨(xCf1 NB479_484.out hHeld.1), (xCf1 NB479_484.out hHeld.2.1), (xCf1 NB479_484.out hHeld.2.2.1), (xCf1 NB479_484.out hHeld.2.2.2.1), (xCf1 NB479_484.out hHeld.2.2.2.2.1), (xCf1 NB480_484.out hHeld.2.2.2.2.2.1), (xCf1 NB480_484.out hHeld.2.2.2.2.2.2.1), (xCf1 NB480_484.out hHeld.2.2.2.2.2.2.2.1), (xCf1 NB480_484.out hHeld.2.2.2.2.2.2.2.2.1), (xCf1 NB480_484.out hHeld.2.2.2.2.2.2.2.2.2)⟩ (fun hHeld => ?_)
     clear hK K
     refine xDn ?_
     have hnb39 := NB484_479.out
     have hnc39 := NB479_484.out
     have hnb40 := NB484_480.out
     have hnc40 := NB480_484.out
     have hnb41 := NB484_481.out
     have hnc41 := NB481_484.out
     replace hz484 := blk_cell BK484.out; replace hy484 := blk_frozen BK484.out
     try go_wp2_with (first | ((with_reducible refine gate_callee (f := 344) rfl ?_); refine goesL_ (some 44) rfl rfl Try.func344 (by kernel_rfl) rfl #[.agg #[.int .i64 (wrap64 ((ji26) + (ji28))), .int .i64 (wrap64 ((wrap64 (-a0_0)) * a1_0)), .int .i64 (wrap64 (a0_1 + a1_1)), .int .i64 a0_2, .int .i64 a0_3, .bool a0_4]] rfl (by (try simp only [List.map_toArray, List.map_cons, List.map_nil]); first | done | (simp only [hji26, hji28]; rfl) | rfl | (simp only [List.length_drop, List.length_take]; rfl)) ?_; (with_reducible refine (impl_isSecond.calls (wrap64 ((ji26) + (ji28))) (wrap64 ((wrap64 (-a0_0)) * a1_0)) (wrap64 (a0_1 + a1_1)) a0_2 a0_3 a0_4 true _ A29.out).mono ?_); rintro e w43 ⟨rfl, hb⟩; refine ⟨_, rfl, ?_⟩; replace BK479 := xA (blk_below (xF1 NB479_484.out BK479.out) hb); replace BK480 := xA (blk_below (xF1 NB480_484.out BK480.out) hb); replace BK481 := xA (blk_below (xF1 NB481_484.out BK481.out) hb); replace BK484 := xA (blk_below (g := gb484) (o := .cells #[.int .i64 (wrap64 ((ji26) + (ji28))), .int .i64 (wrap64 ((wrap64 (-a0_0)) * a1_0)), .int .i64 (wrap64 (a0_1 + a1_1)), .int .i64 a0_2, .int .i64 a0_3, .bool a0_4] 91 (0, 0)) (xPt0 BK484.out) hb); replace HB := xA (below_step (xB4 GE479.out GE480.out GE481.out GE484.out HB.out) hb); (try clear hb); replace hz484 := blk_cell BK484.out; replace hy484 := blk_frozen BK484.out; have hnb45 := NB481_479.out; have hnc45 := NB479_481.out; have hnb46 := NB481_480.out; have hnc46 := NB480_481.out; replace hz481 := blk_cell BK481.out; replace hy481 := blk_frozen BK481.out))
     refine bodyPost_ret (results_ct rfl _ _ gb481 91 #[.int .i64 (wrap64 ((ji26) + (ji28))), .int .i64 (wrap64 ((wrap64 (-a0_0)) * a1_0)), .int .i64 (wrap64 (a0_1 + a1_1)), .int .i64 a0_2, .int .i64 a0_3, .bool a0_4] (0, 0) _ rfl (xPt0 BK481.out) Try.underlying91 rfl (by kernel_rfl)) rfl ?_
     exact ⟨by first | rfl | (simp [errW_none, errW_some] <;> rfl) | (simp only [← hji26, ← hji28]; first | rfl | (simp [errW_none, errW_some] <;> rfl)) | (simp [*, errW_none, errW_some] <;> rfl), xB4 GE479.out GE480.out GE481.out GE484.out HB.out⟩
    replace c30 := Bool.eq_false_iff.mpr c30
    subst c30
    rw [if_neg (show ¬ (false = true) by decide)] at H
    simp only [Option.some.injEq, Prod.mk.injEq] at H
    obtain ⟨rfl, rfl, rfl, rfl, rfl, rfl, rfl⟩ := H
    try go_wp2
    replace BK479 := xA (blk_drew BK479.out)
    replace BK480 := xA (blk_drew BK480.out)
    replace BK481 := xA (blk_drew BK481.out)
    replace HB := xA (below_drew1 HB.out)
    refine start_ (n := 29) (S := fun w' => w'.cell? ⟨gb479, 0, none⟩ = some (.int .i64 a0_0) ∧ w'.cell? ⟨gb479, 1, none⟩ = some (.int .i64 a0_1) ∧ w'.cell? ⟨gb479, 2, none⟩ = some (.int .i64 a0_2) ∧ w'.cell? ⟨gb479, 3, none⟩ = some (.int .i64 a0_3) ∧ w'.cell? ⟨gb479, 4, none⟩ = some (.bool a0_4) ∧ w'.cell? ⟨gb480, 0, none⟩ = some (.int .i64 a1_0) ∧ w'.cell? ⟨gb480, 1, none⟩ = some (.int .i64 a1_1) ∧ w'.cell? ⟨gb480, 2, none⟩ = some (.int .i64 a1_2) ∧ w'.cell? ⟨gb480, 3, none⟩ = some (.int .i64 a1_3) ∧ w'.cell? ⟨gb480, 4, none⟩ = some (.bool a1_4)) (ds := []) x13a0 (by kernel_rfl) rfl rfl ⟨(blk_cell BK479.out 0).trans rfl, (blk_cell BK479.out 1).trans rfl, (blk_cell BK479.out 2).trans rfl, (blk_cell BK479.out 3).trans rfl, (blk_cell BK479.out 4).trans rfl, (blk_cell BK480.out 0).trans rfl, (blk_cell BK480.out 1).trans rfl, (blk_cell BK480.out 2).trans rfl, (blk_cell BK480.out 3).trans rfl, (blk_cell BK480.out 4).trans rfl⟩ (fun hHeld => ?_); refine with_tabW impl_SecondOfFirsts.tab3 impl_SecondOfFirsts.bits3 (fun HT_ HW_ => ?_)
    generalize wc.drew = w48 at BK479 BK480 BK481 HB hHeld ⊢
    refine xP 0 16 x13a1 ?_
    refine xP 2 18 x13a2 ?_
    refine xP 5 21 x13a3 ?_
    refine xP 7 23 x13a4 ?_
    refine xP 11 27 x13a5 ?_
    refine xP 14 30 x13a6 ?_
    refine xP 17 33 x13a7 ?_
    refine xP 19 35 x13a8 ?_
    refine xP 22 38 x13a9 ?_
    refine xP 24 40 x13a10 ?_
    refine xT10 hHeld 1 17 x13a11 ?_
    refine xT10 hHeld 3 19 x13a12 ?_
    refine xP 4 20 x13a13 ?_
    refine xT10 hHeld 6 22 x13a14 ?_
    refine xT10 hHeld 8 24 x13a15 ?_
    refine xP 9 25 x13a16 ?_
    refine xP 10 26 x13a17 ?_
    refine xT10 hHeld 12 28 x13a18 ?_
    refine xP 13 29 x13a19 ?_
    refine xT10 hHeld 15 31 x13a20 ?_
    refine xP 16 32 x13a21 ?_
    refine xT10 hHeld 18 34 x13a22 ?_
    refine xT10 hHeld 20 36 x13a23 ?_
    refine xP 21 37 x13a24 ?_
    refine xT10 hHeld 23 39 x13a25 ?_
    refine xT10 hHeld 25 41 x13a26 ?_
    refine xP 26 42 x13a27 ?_
    refine xU 27 6 x13a28 (fun K hK => ?_)
    refine box_step ?hg (N := 6) ?hd (cs := #[.int .i64 0, .int .i64 0, .int .i64 0, .int .i64 0, .int .i64 0, .bool false]) (t := 91) ?hr ?_; (case hd => rfl); (case hg => rfl); (case hr => first | (go_simp; done) | (go_simp; rfl))
    intro gb484 hg w49 hbox hb
    have BK484 := xA (hbox)
    have GW484 := xgw hg (below_size (xB3 GE479.out GE480.out GE481.out HB.out))
    have GE484 := GW484
    replace HB := xA (below_step (xB3 GE479.out GE480.out GE481.out HB.out) hb)
    have NB479_484 := xnl hg BK479
    have NB484_479 := xng hg BK479
    replace BK479 := xkb BK479 hb
    have NB480_484 := xnl hg BK480
    have NB484_480 := xng hg BK480
    replace BK480 := xkb BK480 hb
    have NB481_484 := xnl hg BK481
    have NB484_481 := xng hg BK481
    replace BK481 := xkb BK481 hb
    clear hb hbox hg
    refine hK.out _ _ ⟨(blk_cell BK479.out 0).trans rfl, (blk_cell BK479.out 1).trans rfl, (blk_cell BK479.out 2).trans rfl, (blk_cell BK479.out 3).trans rfl, (blk_cell BK479.out 4).trans rfl, (blk_cell BK480.out 0).trans rfl, (blk_cell BK480.out 1).trans rfl, (blk_cell BK480.out 2).trans rfl, (blk_cell BK480.out 3).trans rfl, (blk_cell BK480.out 4).trans rfl⟩ (fun hHeld => ?_)
    clear hK K
    refine xN ?_
    refine one_ (i := 28) (N := none) x13a29 rfl rfl (one_of HT_.out (by kernel_rfl)) (by decide) (fun K hK => ?_)
    have hs50 : w49.cell? ⟨gb484, 0, none⟩ = some (.int .i64 0) := (blk_cell BK484.out 0).trans rfl
    have hfs50 := blk_frozen BK484.out 0
    have hns50_0 := NB479_484.out
    have hns50_1 := NB480_484.out
    have hns50_2 := NB481_484.out
    have hms50_0 := NB484_479.out
    have hms50_1 := NB484_480.out
    have hms50_2 := NB484_481.out
    have hs51 : w49.cell? ⟨gb484, 1, none⟩ = some (.int .i64 0) := (blk_cell BK484.out 1).trans rfl
    have hfs51 := blk_frozen BK484.out 1
    have hns51_0 := NB479_484.out
    have hns51_1 := NB480_484.out
    have hns51_2 := NB481_484.out
    have hms51_0 := NB484_479.out
    have hms51_1 := NB484_480.out
    have hms51_2 := NB484_481.out
    have hs52 : w49.cell? ⟨gb484, 2, none⟩ = some (.int .i64 0) := (blk_cell BK484.out 2).trans rfl
    have hfs52 := blk_frozen BK484.out 2
    have hns52_0 := NB479_484.out
    have hns52_1 := NB480_484.out
    have hns52_2 := NB481_484.out
    have hms52_0 := NB484_479.out
    have hms52_1 := NB484_480.out
    have hms52_2 := NB484_481.out
    have hs53 : w49.cell? ⟨gb484, 3, none⟩ = some (.int .i64 0) := (blk_cell BK484.out 3).trans rfl
    have hfs53 := blk_frozen BK484.out 3
    have hns53_0 := NB479_484.out
    have hns53_1 := NB480_484.out
    have hns53_2 := NB481_484.out
    have hms53_0 := NB484_479.out
    have hms53_1 := NB484_480.out
    have hms53_2 := NB484_481.out
    have hs54 : w49.cell? ⟨gb484, 4, none⟩ = some (.int .i64 0) := (blk_cell BK484.out 4).trans rfl
    have hfs54 := blk_frozen BK484.out 4
    have hns54_0 := NB479_484.out
    have hns54_1 := NB480_484.out
    have hns54_2 := NB481_484.out
    have hms54_0 := NB484_479.out
    have hms54_1 := NB484_480.out
    have hms54_2 := NB484_481.out
    have hs55 : w49.cell? ⟨gb484, 5, none⟩ = some (.bool false) := (blk_cell BK484.out 5).trans rfl
    have hfs55 := blk_frozen BK484.out 5
    have hns55_0 := NB479_484.out
    have hns55_1 := NB480_484.out
    have hns55_2 := NB481_484.out
    have hms55_0 := NB484_479.out
    have hms55_1 := NB484_480.out
    have hms55_2 := NB484_481.out
    refine skip_ (w1 := ?_) (by rfl) rfl ?_ ?_
    rotate_left
    ·go_simp
     rfl
    refine hK.out _ _ ⟨(xCf1 NB479_484.out hHeld.1), (xCf1 NB479_484.out hHeld.2.1), (xCf1 NB479_484.out hHeld.2.2.1), (xCf1 NB479_484.out hHeld.2.2.2.1), (xCf1 NB479_484.out hHeld.2.2.2.2.1), (xCf1 NB480_484.out hHeld.2.2.2.2.2.1), (xCf1 NB480_484.out hHeld.2.2.2.2.2.2.1), (xCf1 NB480_484.out hHeld.2.2.2.2.2.2.2.1), (xCf1 NB480_484.out hHeld.2.2.2.2.2.2.2.2.1), (xCf1 NB480_484.out hHeld.2.2.2.2.2.2.2.2.2)⟩ (fun hHeld => ?_)
    clear hK K
    refine xDn ?_
    have hnb56 := NB484_479.out
    have hnc56 := NB479_484.out
    have hnb57 := NB484_480.out
    have hnc57 := NB480_484.out
    have hnb58 := NB484_481.out
    have hnc58 := NB481_484.out
    replace hz484 := blk_cell BK484.out; replace hy484 := blk_frozen BK484.out
    try go_wp2_with (first | ((with_reducible refine gate_callee (f := 344) rfl ?_); refine goesL_ (some 44) rfl rfl Try.func344 (by kernel_rfl) rfl #[.agg #[.int .i64 (wrap64 ((ji26) + (ji28))), .int .i64 (wrap64 ((wrap64 (-a0_0)) * a1_0)), .int .i64 (wrap64 (a0_1 + a1_1)), .int .i64 a0_2, .int .i64 a0_3, .bool a0_4]] rfl (by (try simp only [List.map_toArray, List.map_cons, List.map_nil]); first | done | (simp only [hji26, hji28]; rfl) | rfl | (simp only [List.length_drop, List.length_take]; rfl)) ?_; (with_reducible refine (impl_isSecond.calls (wrap64 ((ji26) + (ji28))) (wrap64 ((wrap64 (-a0_0)) * a1_0)) (wrap64 (a0_1 + a1_1)) a0_2 a0_3 a0_4 false _ A29.out).mono ?_); rintro e w60 ⟨rfl, hb⟩; refine ⟨_, rfl, ?_⟩; replace BK479 := xA (blk_below (xF1 NB479_484.out BK479.out) hb); replace BK480 := xA (blk_below (xF1 NB480_484.out BK480.out) hb); replace BK481 := xA (blk_below (xF1 NB481_484.out BK481.out) hb); replace BK484 := xA (blk_below (g := gb484) (o := .cells #[.int .i64 (wrap64 ((ji26) + (ji28))), .int .i64 (wrap64 ((wrap64 (-a0_0)) * a1_0)), .int .i64 (wrap64 (a0_1 + a1_1)), .int .i64 a0_2, .int .i64 a0_3, .bool a0_4] 91 (0, 0)) (xPt0 BK484.out) hb); replace HB := xA (below_step (xB4 GE479.out GE480.out GE481.out GE484.out HB.out) hb); (try clear hb); have hnb61 := NB481_479.out; have hnc61 := NB479_481.out; have hnb62 := NB481_480.out; have hnc62 := NB480_481.out; replace hz481 := blk_cell BK481.out; replace hy481 := blk_frozen BK481.out))
    refine bodyPost_ret (results_ct rfl _ _ gb481 91 #[.int .i64 0, .int .i64 0, .int .i64 0, .int .i64 0, .int .i64 0, .bool false] (0, 0) _ rfl (xPt0 BK481.out) Try.underlying91 rfl (by kernel_rfl)) rfl ?_
    exact ⟨by first | rfl | (simp [errW_none, errW_some] <;> rfl) | (simp only [← hji26, ← hji28]; first | rfl | (simp [errW_none, errW_some] <;> rfl)) | (simp [*, errW_none, errW_some] <;> rfl), xB4 GE479.out GE480.out GE481.out GE484.out HB.out⟩
end Go.Proofs.Ytjplcongellcmaa.PFnPairsRun
