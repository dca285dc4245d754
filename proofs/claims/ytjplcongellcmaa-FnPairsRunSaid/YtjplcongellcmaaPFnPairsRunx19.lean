/- What each Go function that the statement FnPairsRun reaches answers, proved call by call. No condition beyond those that the theorems print. (Written by wip/tools/xprint.py of this repo, over the kit's print.) -/
import Derived.Test.YtjplcongellcmaaPFnPairsRunx0
import Derived.Test.YtjplcongellcmaaPFnPairsRunx2
import Derived.Test.YtjplcongellcmaaPFnPairsRunx3
import Derived.Test.YtjplcongellcmaaPFnPairsRunx4
import Derived.Test.YtjplcongellcmaaPFnPairsRunx5
import Derived.Test.YtjplcongellcmaaPFnPairsRunx7
import Derived.Test.YtjplcongellcmaaPFnPairsRunx8
import Derived.Test.YtjplcongellcmaaPFnPairsRunx18
namespace Go.Proofs.Ytjplcongellcmaa.PFnPairsRun
open Go.RowKit Go.Proofs.YtjplcongellcmaaW.PrintWords Go.Proofs.YtjplcongellcmaaW.PrintLast Go.Proofs.YtjplcongellcmaaW.PrintMore
attribute [local go_sem] max2_int min2_int max_two min_two max_three min_three max_four min_four   -- for this text's walks alone
set_option linter.unusedVariables false
set_option linter.unusedSimpArgs false
def x19a0 : Array Bool := #[Zz,Zz,Zz,Zz,Zz,Zz,Zz,Zz,Zz,Zz,Zz,Zz,Zz,Zz,Zz]
def x19a1 : Array Bool := #[Zz,Yy,Zz,Zz,Zz,Zz,Zz,Zz,Zz,Zz,Zz,Zz,Zz,Zz,Zz]
def x19a2 : Array Bool := #[Zz,Yy,Yy,Zz,Zz,Zz,Zz,Zz,Zz,Zz,Zz,Zz,Zz,Zz,Zz]
def x19a3 : Array Bool := #[Zz,Yy,Yy,Zz,Zz,Yy,Zz,Zz,Zz,Zz,Zz,Zz,Zz,Zz,Zz]
def x19a4 : Array Bool := #[Zz,Yy,Yy,Zz,Zz,Yy,Yy,Zz,Zz,Zz,Zz,Zz,Zz,Zz,Zz]
def x19a5 : Array Bool := #[Zz,Yy,Yy,Zz,Zz,Yy,Yy,Zz,Zz,Yy,Zz,Zz,Zz,Zz,Zz]
def x19a6 : Array Bool := #[Yy,Yy,Yy,Zz,Zz,Yy,Yy,Zz,Zz,Yy,Zz,Zz,Zz,Zz,Zz]
def x19a7 : Array Bool := #[Yy,Yy,Yy,Yy,Zz,Yy,Yy,Zz,Zz,Yy,Zz,Zz,Zz,Zz,Zz]
def x19a8 : Array Bool := #[Yy,Yy,Yy,Yy,Zz,Yy,Yy,Yy,Zz,Yy,Zz,Zz,Zz,Zz,Zz]
def x19a9 : Array Bool := #[Yy,Yy,Yy,Yy,Yy,Yy,Yy,Yy,Zz,Yy,Zz,Zz,Zz,Zz,Zz]
def x19a10 : Array Bool := #[Yy,Yy,Yy,Yy,Yy,Yy,Yy,Yy,Yy,Yy,Zz,Zz,Zz,Zz,Zz]
def x19a11 : Array Bool := #[Yy,Yy,Yy,Yy,Yy,Yy,Yy,Yy,Yy,Yy,Yy,Zz,Zz,Zz,Zz]
def x19a12 : Array Bool := #[Yy,Yy,Yy,Yy,Yy,Yy,Yy,Yy,Yy,Yy,Yy,Yy,Zz,Zz,Zz]
def x19a13 : Array Bool := #[Yy,Yy,Yy,Yy,Yy,Yy,Yy,Yy,Yy,Yy,Yy,Yy,Yy,Zz,Zz]
def x19a14 : Array Bool := #[Yy,Yy,Yy,Yy,Yy,Yy,Yy,Yy,Yy,Yy,Yy,Yy,Yy,Yy,Zz]
def x19a15 : Array Bool := #[Yy,Yy,Yy,Yy,Yy,Yy,Yy,Yy,Yy,Yy,Yy,Yy,Yy,Yy,Yy]
def x19a16 : Array Bool := #[Zz,Zz,Zz,Zz,Zz,Zz,Zz,Zz,Zz]
def x19a17 : Array Bool := #[Yy,Zz,Zz,Zz,Zz,Zz,Zz,Zz,Zz]
def x19a18 : Array Bool := #[Yy,Zz,Zz,Yy,Zz,Zz,Zz,Zz,Zz]
def x19a19 : Array Bool := #[Yy,Zz,Zz,Yy,Yy,Zz,Zz,Zz,Zz]
def x19a20 : Array Bool := #[Yy,Zz,Zz,Yy,Yy,Yy,Zz,Zz,Zz]
def x19a21 : Array Bool := #[Yy,Yy,Zz,Yy,Yy,Yy,Zz,Zz,Zz]
def x19a22 : Array Bool := #[Yy,Yy,Yy,Yy,Yy,Yy,Zz,Zz,Zz]
def x19a23 : Array Bool := #[Yy,Yy,Yy,Yy,Yy,Yy,Yy,Zz,Zz]
def x19a24 : Array Bool := #[Yy,Yy,Yy,Yy,Yy,Yy,Yy,Yy,Zz]
def x19a25 : Array Bool := #[Yy,Yy,Yy,Yy,Yy,Yy,Yy,Yy,Yy]

/-! ### spec_DrawSecondStep: function 154 -/
def spec_DrawSecondStep.f (k : Nat) (l0 : List Int) : Option (Int × Int × Int × Int × Int × Bool × Int × Int × Int) := (spec_l1Cur_second.f k l0 0 0 8).bind fun bt576 => ((spec_l1Cur_inWord.f k l0 bt576.2.2.2.2.2.2.1 bt576.2.2.2.2.2.2.2 bt576.2.2.2.2.1 bt576.2.2.2.2.2.1).bind fun bt585 => ((spec_l1Cur_inWord.f k l0 bt585.2.1 bt585.2.2 bt576.2.2.2.2.1 bt576.2.2.2.2.2.1).bind fun bt588 => ((spec_l1Cur_sample.f l0 bt588.2.1 bt588.2.2 20).bind fun bt591 => (some (bt576.1, bt576.2.1, bt576.2.2.1, bt576.2.2.2.1, bt576.2.2.2.2.1, bt576.2.2.2.2.2.1, bt585.1, bt588.1, bt591.1)))))
theorem spec_DrawSecondStep.mono : ∀ a0 k, LeO (spec_DrawSecondStep.f k a0) (spec_DrawSecondStep.f (k + 1) a0) := by
 intro a0 k
 have m0 := @spec_l1Cur_inWord.mono
 have m1 := @spec_l1Cur_second.mono
 unfold spec_DrawSecondStep.f
 exact xM
def spec_DrawSecondStep.T3 : Bool × List (List Nat × List Nat) := (true, [([], []), ([], []), ([], []), ([2], [2]), ([1, 3], [1, 3]), ([], []), ([], []), ([6], [6]), ([5, 7, 4], [5, 7]), ([], []), ([9, 8], [9]), ([0, 10, 0], [0]), ([4, 11, 0, 1, 2, 3, 4, 11], [4]), ([8, 12, 0, 1, 2, 3, 4, 5, 6, 7, 8, 11, 12], [8]), ([10, 13, 0, 1, 2, 3, 4, 5, 6, 7, 8, 9, 10, 11, 12, 13], [10])])
def spec_DrawSecondStep.B3 : List Nat := [0, 0, 0, 4, 14, 0, 0, 64, 254, 0, 1022, 2047, 4095, 8191, 16383]
theorem spec_DrawSecondStep.tab3 : rtab .any (opsOf Try.f154 3) = spec_DrawSecondStep.T3 := by kernel_rfl
theorem spec_DrawSecondStep.bits3 : waitsOk spec_DrawSecondStep.T3.2 spec_DrawSecondStep.B3 = true := by kernel_rfl
set_option maxHeartbeats 200000000 in
set_option maxRecDepth 100000 in
theorem spec_DrawSecondStep.calls (k : Nat) (A0 : Option Addr) (c0 : Nat) (l0 : List Int) (r1 : Int) (r2 : Int) (r3 : Int) (r4 : Int) (r5 : Int) (r6 : Bool) (r7 : Int) (r8 : Int) (r9 : Int) (w : World) (hr0 : Kd.C (Kd.int .u8) w A0 l0.length l0) (hc0 : l0.length ≤ c0) (h : spec_DrawSecondStep.f k l0 = some (r1, r2, r3, r4, r5, r6, r7, r8, r9)) :
  Calls Try.prog 154 #[.slice A0 l0.length c0] w fun e w' => e = .returned (.tuple #[.agg #[.int .i64 r1, .int .i64 r2, .int .i64 r3, .int .i64 r4, .int .i64 r5, .bool r6], .int .i64 r7, .int .i64 r8, .int .i64 r9]) ∧ Below w.heap.size w w' := by
 have hu91 := Try.underlying91
 have hu129 := Try.underlying129
 have hu46 := Try.underlying46
 have HR0 := xA hr0
 have HC0 := xA hc0
 clear hr0 hc0
 have HB := xA (Below.refl w.heap.size w)
 have H : ((spec_l1Cur_second.f k l0 0 0 8).bind fun bt576 => ((spec_l1Cur_inWord.f k l0 bt576.2.2.2.2.2.2.1 bt576.2.2.2.2.2.2.2 bt576.2.2.2.2.1 bt576.2.2.2.2.2.1).bind fun bt585 => ((spec_l1Cur_inWord.f k l0 bt585.2.1 bt585.2.2 bt576.2.2.2.2.1 bt576.2.2.2.2.2.1).bind fun bt588 => ((spec_l1Cur_sample.f l0 bt588.2.1 bt588.2.2 20).bind fun bt591 => (some (bt576.1, bt576.2.1, bt576.2.2.1, bt576.2.2.2.1, bt576.2.2.2.2.1, bt576.2.2.2.2.2.1, bt585.1, bt588.1, bt591.1)))))) = some (r1, r2, r3, r4, r5, r6, r7, r8, r9) := h
 clear h
 replace H := Option.bind_eq_some_iff.mp H
 obtain ⟨⟨t576, t577, t578, t579, t580, t581, t582, t583⟩, A20, H⟩ := H
 (try dsimp only at H)
 have A2 := xA A20
 clear A20
 replace H := Option.bind_eq_some_iff.mp H
 obtain ⟨⟨t585, t586, t587⟩, A30, H⟩ := H
 (try dsimp only at H)
 have A3 := xA A30
 clear A30
 replace H := Option.bind_eq_some_iff.mp H
 obtain ⟨⟨t588, t589, t590⟩, A40, H⟩ := H
 (try dsimp only at H)
 have A4 := xA A40
 clear A40
 replace H := Option.bind_eq_some_iff.mp H
 obtain ⟨⟨t591, t592, t593⟩, A50, H⟩ := H
 (try dsimp only at H)
 have A5 := xA A50
 clear A50
 simp only [Option.some.injEq, Prod.mk.injEq] at H
 obtain ⟨rfl, rfl, rfl, rfl, rfl, rfl, rfl, rfl, rfl⟩ := H
 go_enter Try.func154, Try.ntmps154
 try go_wp2_with (first | (refine xg 2 rfl ?_; refine xV 2 #[.int .i64 0, .int .i64 0, .int .i64 0, .int .i64 0, .int .i64 0, .bool false] 91 ?_; intro gb574 hg w6 hbox hb; have BK574 := xA (hbox); have GW574 := xgw hg (below_size (xB HB.out)); have GE574 := GW574; replace HB := xA (below_step (xB HB.out) hb); clear hb hbox hg) | (refine xg 10 rfl ?_; refine xV 10 #[.slice A0 l0.length c0, .int .i64 0, .int .u64 0] 129 ?_; intro gb575 hg w7 hbox hb; have HI575 := xA ((show IsS129 w _ gb575 l0 0 0 from ⟨_, _, hbox, (by rw [hg]; exact (below_size (xB1 GE574.out HB.out)) : w.heap.size ≤ gb575), HR0.out⟩)); replace HB := xA (below_step (xB1 GE574.out HB.out) hb); have NB574_575 := xnl hg BK574; have NB575_574 := xng hg BK574; replace BK574 := xkb BK574 hb; clear hb hbox hg) | (refine xG (some 12) Try.func335 #[.pointer (some ⟨gb575, 0, none⟩), .int .i64 8] ?_; (with_reducible refine (spec_l1Cur_second.calls k gb575 l0 0 0 8 t576 t577 t578 t579 t580 t581 t582 t583 w _ ?side1 ?side2 A2.out).mono ?_); (case side1 => exact xJ129_12_1 NB575_574.out HI575.out); (case side2 => exact xB2 (IsS129.ge HI575.out) GE574.out HB.out); rintro e w8 ⟨rfl, hi, hb, hk⟩; refine ⟨_, rfl, ?_⟩; replace BK574 := xkk hk BK574 NB574_575; replace HB := xA (hb); replace HI575 := xA (hi); (try clear hb hk hi)) | (refine xg 7 rfl ?_; refine xV 7 #[.int .i64 0, .int .i64 0, .int .i64 0, .int .i64 0, .int .i64 0, .bool false] 91 ?_; intro gb584 hg w9 hbox hb; have BK584 := xA (hbox); have GW584 := xgw hg (below_size (xB2 (IsS129.ge HI575.out) GE574.out HB.out)); have GE584 := GW584; replace HB := xA (below_step (xB2 (IsS129.ge HI575.out) GE574.out HB.out) hb); have NB574_584 := xnl hg BK574; have NB584_574 := xng hg BK574; replace BK574 := xkb BK574 hb; have NB575_584 := xA ((by rw [hg]; exact Nat.ne_of_lt (IsS129.lt (show IsS129 w _ gb575 l0 t582 t583 from xJ129_12_1 NB575_574.out HI575.out)) : gb575 ≠ gb584)); have NB584_575 := xA ((by rw [hg]; exact Nat.ne_of_gt (IsS129.lt (show IsS129 w _ gb575 l0 t582 t583 from xJ129_12_1 NB575_574.out HI575.out)) : gb584 ≠ gb575)); replace HI575 := xA (IsS129.below (xJ129_12_1 NB575_574.out HI575.out) hb); clear hb hbox hg; have hnb10 := NB584_574.out; have hnc10 := NB574_584.out; have hnb11 := NB584_575.out; have hnc11 := NB575_584.out; replace hz584 := blk_cell BK584.out; replace hy584 := blk_frozen BK584.out))
 have n0_ : Aside0 (((((((w9.setCell ⟨gb584, 0, none⟩ (.int .i64 t576)).setCell ⟨gb584, 1, none⟩ (.int .i64 t577)).setCell ⟨gb584, 2, none⟩ (.int .i64 t578)).setCell ⟨gb584, 3, none⟩ (.int .i64 t579)).setCell ⟨gb584, 4, none⟩ (.int .i64 t580)).setCell ⟨gb584, 5, none⟩ (.bool t581)).heap[gb574]? = some (.cells #[.int .i64 0, .int .i64 0, .int .i64 0, .int .i64 0, .int .i64 0, .bool false] 91 (0, 0))) := ⟨by (with_reducible repeat (first | refine blk_drewN ?_ _ | refine blk_drew ?_ | refine blk_alloc ?_ _)); refine blk_far ?_ NB574_584.out _; (with_reducible repeat (first | refine blk_drewN ?_ _ | refine blk_drew ?_ | refine blk_alloc ?_ _)); refine blk_far ?_ NB574_584.out _; (with_reducible repeat (first | refine blk_drewN ?_ _ | refine blk_drew ?_ | refine blk_alloc ?_ _)); refine blk_far ?_ NB574_584.out _; (with_reducible repeat (first | refine blk_drewN ?_ _ | refine blk_drew ?_ | refine blk_alloc ?_ _)); refine blk_far ?_ NB574_584.out _; (with_reducible repeat (first | refine blk_drewN ?_ _ | refine blk_drew ?_ | refine blk_alloc ?_ _)); refine blk_far ?_ NB574_584.out _; (with_reducible repeat (first | refine blk_drewN ?_ _ | refine blk_drew ?_ | refine blk_alloc ?_ _)); refine blk_far ?_ NB574_584.out _; (with_reducible repeat (first | refine blk_drewN ?_ _ | refine blk_drew ?_ | refine blk_alloc ?_ _)); exact BK574.out⟩
 have n1_ : Aside0 (((((((w9.setCell ⟨gb584, 0, none⟩ (.int .i64 t576)).setCell ⟨gb584, 1, none⟩ (.int .i64 t577)).setCell ⟨gb584, 2, none⟩ (.int .i64 t578)).setCell ⟨gb584, 3, none⟩ (.int .i64 t579)).setCell ⟨gb584, 4, none⟩ (.int .i64 t580)).setCell ⟨gb584, 5, none⟩ (.bool t581)).heap[gb584]? = some (.cells #[.int .i64 t576, .int .i64 t577, .int .i64 t578, .int .i64 t579, .int .i64 t580, .bool t581] 91 (0, 0))) := ⟨by (with_reducible repeat (first | refine blk_drewN ?_ _ | refine blk_drew ?_ | refine blk_alloc ?_ _)); refine blk_put (cs := #[.int .i64 t576, .int .i64 t577, .int .i64 t578, .int .i64 t579, .int .i64 t580, .bool false]) ?_ 5 _ rfl; (with_reducible repeat (first | refine blk_drewN ?_ _ | refine blk_drew ?_ | refine blk_alloc ?_ _)); refine blk_put (cs := #[.int .i64 t576, .int .i64 t577, .int .i64 t578, .int .i64 t579, .int .i64 0, .bool false]) ?_ 4 _ rfl; (with_reducible repeat (first | refine blk_drewN ?_ _ | refine blk_drew ?_ | refine blk_alloc ?_ _)); refine blk_put (cs := #[.int .i64 t576, .int .i64 t577, .int .i64 t578, .int .i64 0, .int .i64 0, .bool false]) ?_ 3 _ rfl; (with_reducible repeat (first | refine blk_drewN ?_ _ | refine blk_drew ?_ | refine blk_alloc ?_ _)); refine blk_put (cs := #[.int .i64 t576, .int .i64 t577, .int .i64 0, .int .i64 0, .int .i64 0, .bool false]) ?_ 2 _ rfl; (with_reducible repeat (first | refine blk_drewN ?_ _ | refine blk_drew ?_ | refine blk_alloc ?_ _)); refine blk_put (cs := #[.int .i64 t576, .int .i64 0, .int .i64 0, .int .i64 0, .int .i64 0, .bool false]) ?_ 1 _ rfl; (with_reducible repeat (first | refine blk_drewN ?_ _ | refine blk_drew ?_ | refine blk_alloc ?_ _)); refine blk_put (cs := #[.int .i64 0, .int .i64 0, .int .i64 0, .int .i64 0, .int .i64 0, .bool false]) ?_ 0 _ rfl; (with_reducible repeat (first | refine blk_drewN ?_ _ | refine blk_drew ?_ | refine blk_alloc ?_ _)); exact BK584.out⟩
 have n2_ : Aside0 (IsS129 w ((((((w9.setCell ⟨gb584, 0, none⟩ (.int .i64 t576)).setCell ⟨gb584, 1, none⟩ (.int .i64 t577)).setCell ⟨gb584, 2, none⟩ (.int .i64 t578)).setCell ⟨gb584, 3, none⟩ (.int .i64 t579)).setCell ⟨gb584, 4, none⟩ (.int .i64 t580)).setCell ⟨gb584, 5, none⟩ (.bool t581)) gb575 l0 t582 t583) := ⟨xJ129_12_2 NB575_574.out NB575_584.out HI575.out⟩
 have n3_ : Aside0 (Below w.heap.size w ((((((w9.setCell ⟨gb584, 0, none⟩ (.int .i64 t576)).setCell ⟨gb584, 1, none⟩ (.int .i64 t577)).setCell ⟨gb584, 2, none⟩ (.int .i64 t578)).setCell ⟨gb584, 3, none⟩ (.int .i64 t579)).setCell ⟨gb584, 4, none⟩ (.int .i64 t580)).setCell ⟨gb584, 5, none⟩ (.bool t581))) := ⟨xB3 (IsS129.ge HI575.out) GE574.out GE584.out HB.out⟩
 (try clear BK574)
 (try clear BK584)
 (try clear HI575)
 (try clear HB)
 generalize ((((((w9.setCell ⟨gb584, 0, none⟩ (.int .i64 t576)).setCell ⟨gb584, 1, none⟩ (.int .i64 t577)).setCell ⟨gb584, 2, none⟩ (.int .i64 t578)).setCell ⟨gb584, 3, none⟩ (.int .i64 t579)).setCell ⟨gb584, 4, none⟩ (.int .i64 t580)).setCell ⟨gb584, 5, none⟩ (.bool t581)) = w13 at n0_ n1_ n2_ n3_ ⊢
 have BK574 := n0_
 have BK584 := n1_
 have HI575 := n2_
 have HB := n3_
 clear n0_ n1_ n2_ n3_
 replace BK574 := xA (blk_drew BK574.out)
 replace BK584 := xA (blk_drew BK584.out)
 replace HI575 := xA (IsS129.drew HI575.out)
 replace HB := xA (below_drew1 HB.out)
 refine start_ (n := 15) (S := fun w' => w'.cell? ⟨gb584, 0, none⟩ = some (.int .i64 t576) ∧ w'.cell? ⟨gb584, 1, none⟩ = some (.int .i64 t577) ∧ w'.cell? ⟨gb584, 2, none⟩ = some (.int .i64 t578) ∧ w'.cell? ⟨gb584, 3, none⟩ = some (.int .i64 t579) ∧ w'.cell? ⟨gb584, 4, none⟩ = some (.int .i64 t580) ∧ w'.cell? ⟨gb584, 5, none⟩ = some (.bool t581)) (ds := []) x19a0 (by kernel_rfl) rfl rfl ⟨(blk_cell BK584.out 0).trans rfl, (blk_cell BK584.out 1).trans rfl, (blk_cell BK584.out 2).trans rfl, (blk_cell BK584.out 3).trans rfl, (blk_cell BK584.out 4).trans rfl, (blk_cell BK584.out 5).trans rfl⟩ (fun hHeld => ?_); refine with_tabW spec_DrawSecondStep.tab3 spec_DrawSecondStep.bits3 (fun HT_ HW_ => ?_)
 generalize w13.drew = w14 at BK574 BK584 HI575 HB hHeld ⊢
 refine xP 1 14 x19a1 ?_
 refine xP 2 15 x19a2 ?_
 refine xP 5 18 x19a3 ?_
 refine xP 6 19 x19a4 ?_
 refine xP 9 22 x19a5 ?_
 refine xT6 hHeld 0 13 x19a6 ?_
 refine xT6 hHeld 3 16 x19a7 ?_
 refine xT6 hHeld 7 20 x19a8 ?_
 refine xU 4 17 x19a9 (fun K hK => ?_)
 refine xY Try.func282 #[.pointer (some ⟨gb575, 0, none⟩), .agg #[.int .i64 t580, .bool t581]] ?_
 with_reducible refine (spec_l1Cur_inWord.calls k gb575 l0 t582 t583 t580 t581 t585 t586 t587 w _ ?side1 ?side2 A3.out).mono ?_
 (case side1 => exact xJ129_12_2 NB575_574.out NB575_584.out HI575.out)
 (case side2 => exact xB3 (IsS129.ge HI575.out) GE574.out GE584.out HB.out)
 rintro e w15 ⟨rfl, hi, hb, hk⟩
 refine ⟨_, rfl, ?_⟩
 replace BK574 := xkk hk BK574 NB574_575
 replace BK584 := xkk hk BK584 NB584_575
 replace HB := xA (hb)
 replace HI575 := xA (hi)
 (try clear hb); (try clear hb2); (try clear hk); (try clear hi)
 refine hK.out _ _ ⟨(blk_cell BK584.out 0).trans rfl, (blk_cell BK584.out 1).trans rfl, (blk_cell BK584.out 2).trans rfl, (blk_cell BK584.out 3).trans rfl, (blk_cell BK584.out 4).trans rfl, (blk_cell BK584.out 5).trans rfl⟩ (fun hHeld => ?_)
 clear hK K
 refine xN ?_
 refine xU 8 21 x19a10 (fun K hK => ?_)
 refine xY Try.func282 #[.pointer (some ⟨gb575, 0, none⟩), .agg #[.int .i64 t580, .bool t581]] ?_
 with_reducible refine (spec_l1Cur_inWord.calls k gb575 l0 t586 t587 t580 t581 t588 t589 t590 w _ ?side1 ?side2 A4.out).mono ?_
 (case side1 => exact xJ129_12_2 NB575_574.out NB575_584.out HI575.out)
 (case side2 => exact xB3 (IsS129.ge HI575.out) GE574.out GE584.out HB.out)
 rintro e w16 ⟨rfl, hi, hb, hk⟩
 refine ⟨_, rfl, ?_⟩
 replace BK574 := xkk hk BK574 NB574_575
 replace BK584 := xkk hk BK584 NB584_575
 replace HB := xA (hb)
 replace HI575 := xA (hi)
 (try clear hb); (try clear hb2); (try clear hk); (try clear hi)
 refine hK.out _ _ ⟨(blk_cell BK584.out 0).trans rfl, (blk_cell BK584.out 1).trans rfl, (blk_cell BK584.out 2).trans rfl, (blk_cell BK584.out 3).trans rfl, (blk_cell BK584.out 4).trans rfl, (blk_cell BK584.out 5).trans rfl⟩ (fun hHeld => ?_)
 clear hK K
 refine xN ?_
 refine xU 10 23 x19a11 (fun K hK => ?_)
 refine xY Try.func301 #[.pointer (some ⟨gb575, 0, none⟩), .int .i64 20] ?_
 with_reducible refine (spec_l1Cur_sample.calls gb575 l0 t589 t590 20 t591 t592 t593 w _ ?side1 ?side2 A5.out).mono ?_
 (case side1 => exact xJ129_12_2 NB575_574.out NB575_584.out HI575.out)
 (case side2 => exact xB3 (IsS129.ge HI575.out) GE574.out GE584.out HB.out)
 rintro e w17 ⟨rfl, hi, hb, hk⟩
 refine ⟨_, rfl, ?_⟩
 replace BK574 := xkk hk BK574 NB574_575
 replace BK584 := xkk hk BK584 NB584_575
 replace HB := xA (hb)
 replace HI575 := xA (hi)
 (try clear hb); (try clear hb2); (try clear hk); (try clear hi)
 refine hK.out _ _ ⟨(blk_cell BK584.out 0).trans rfl, (blk_cell BK584.out 1).trans rfl, (blk_cell BK584.out 2).trans rfl, (blk_cell BK584.out 3).trans rfl, (blk_cell BK584.out 4).trans rfl, (blk_cell BK584.out 5).trans rfl⟩ (fun hHeld => ?_)
 clear hK K
 refine xN ?_
 refine one_ (i := 11) (N := none) x19a12 rfl rfl (one_of HT_.out (by kernel_rfl)) (by decide) (fun K hK => ?_)
 have hs18 : w17.cell? ⟨gb574, 0, none⟩ = some (.int .i64 0) := (blk_cell BK574.out 0).trans rfl
 have hfs18 := blk_frozen BK574.out 0
 have hns18_1 := NB584_574.out
 have hms18_1 := NB574_584.out
 have hs19 : w17.cell? ⟨gb574, 1, none⟩ = some (.int .i64 0) := (blk_cell BK574.out 1).trans rfl
 have hfs19 := blk_frozen BK574.out 1
 have hns19_1 := NB584_574.out
 have hms19_1 := NB574_584.out
 have hs20 : w17.cell? ⟨gb574, 2, none⟩ = some (.int .i64 0) := (blk_cell BK574.out 2).trans rfl
 have hfs20 := blk_frozen BK574.out 2
 have hns20_1 := NB584_574.out
 have hms20_1 := NB574_584.out
 have hs21 : w17.cell? ⟨gb574, 3, none⟩ = some (.int .i64 0) := (blk_cell BK574.out 3).trans rfl
 have hfs21 := blk_frozen BK574.out 3
 have hns21_1 := NB584_574.out
 have hms21_1 := NB574_584.out
 have hs22 : w17.cell? ⟨gb574, 4, none⟩ = some (.int .i64 0) := (blk_cell BK574.out 4).trans rfl
 have hfs22 := blk_frozen BK574.out 4
 have hns22_1 := NB584_574.out
 have hms22_1 := NB574_584.out
 have hs23 : w17.cell? ⟨gb574, 5, none⟩ = some (.bool false) := (blk_cell BK574.out 5).trans rfl
 have hfs23 := blk_frozen BK574.out 5
 have hns23_1 := NB584_574.out
 have hms23_1 := NB574_584.out
 refine skip_ (w1 := ?_) (by rfl) rfl ?_ ?_
 rotate_left
 ·go_simp
  rfl
 refine hK.out _ _ ⟨(xCf1 NB584_574.out hHeld.1), (xCf1 NB584_574.out hHeld.2.1), (xCf1 NB584_574.out hHeld.2.2.1), (xCf1 NB584_574.out hHeld.2.2.2.1), (xCf1 NB584_574.out hHeld.2.2.2.2.1), (xCf1 NB584_574.out hHeld.2.2.2.2.2)⟩ (fun hHeld => ?_)
 clear hK K
 refine xP 12 3 x19a13 ?_
 refine xP 13 4 x19a14 ?_
 refine xP 14 5 x19a15 ?_
 refine xDn ?_
 try go_wp2
 refine bodyPost_ret (results_list (rs := [.cell 2 91, .tmp 3, .tmp 4, .tmp 5]) rfl (by simp) (.cell gb574 91 #[.int .i64 t576, .int .i64 t577, .int .i64 t578, .int .i64 t579, .int .i64 t580, .bool t581] (0, 0) _ rfl (xPt0 BK574.out) Try.underlying91 rfl (by kernel_rfl) (.tmp (.tmp (.tmp .nil))))) rfl ?_
 exact ⟨xr, xB3 (IsS129.ge HI575.out) GE574.out GE584.out HB.out⟩

/-! ### spec_sdStep: function 350 -/
def spec_sdStep.f (k : Nat) (a0_0 : Int) (a0_1 : Int) (a0_2 : Int) (a0_3 : Int) (a0_4 : Int) (a0_5 : Bool) (a1 : Int) (a2 : Int) (a3 : Int) : Option (Int) := (spec_sdRaw.f k a0_0 a0_1 a0_2 a0_3 a0_4 a0_5 a1 a2 a3).bind fun t595 => ((spec_wdFit.f a0_4 a0_5 t595).bind fun t596 => (some t596))
theorem spec_sdStep.mono : ∀ a0 a1 a2 a3 a4 a5 a6 a7 a8 k, LeO (spec_sdStep.f k a0 a1 a2 a3 a4 a5 a6 a7 a8) (spec_sdStep.f (k + 1) a0 a1 a2 a3 a4 a5 a6 a7 a8) := by
 intro a0 a1 a2 a3 a4 a5 a6 a7 a8 k
 have m0 := @spec_sdRaw.mono
 unfold spec_sdStep.f
 exact xM
def spec_sdStep.T1 : Bool × List (List Nat × List Nat) := (true, [([], []), ([0], [0]), ([], []), ([], []), ([], []), ([], []), ([2, 3, 4, 5], [2, 3, 4, 5]), ([1, 6, 6], [1, 6]), ([7, 7, 0, 1, 2, 3, 4, 5, 6, 7], [7])])
def spec_sdStep.B1 : List Nat := [0, 1, 0, 0, 0, 0, 60, 127, 255]
theorem spec_sdStep.tab1 : rtab .any (opsOf Try.f350 1) = spec_sdStep.T1 := by kernel_rfl
theorem spec_sdStep.bits1 : waitsOk spec_sdStep.T1.2 spec_sdStep.B1 = true := by kernel_rfl
set_option maxHeartbeats 200000000 in
set_option maxRecDepth 100000 in
theorem spec_sdStep.calls (k : Nat) (a0_0 : Int) (a0_1 : Int) (a0_2 : Int) (a0_3 : Int) (a0_4 : Int) (a0_5 : Bool) (a1 : Int) (a2 : Int) (a3 : Int) (r : Int) (w : World) (h : spec_sdStep.f k a0_0 a0_1 a0_2 a0_3 a0_4 a0_5 a1 a2 a3 = some r) :
  Calls Try.prog 350 #[.agg #[.int .i64 a0_0, .int .i64 a0_1, .int .i64 a0_2, .int .i64 a0_3, .int .i64 a0_4, .bool a0_5], .int .i64 a1, .int .i64 a2, .int .i64 a3] w fun e w' => e = .returned (.int .i64 r) ∧ Below w.heap.size w w' := by
 have hu91 := Try.underlying91
 have hu46 := Try.underlying46
 have HB := xA (Below.refl w.heap.size w)
 have H : ((spec_sdRaw.f k a0_0 a0_1 a0_2 a0_3 a0_4 a0_5 a1 a2 a3).bind fun t595 => ((spec_wdFit.f a0_4 a0_5 t595).bind fun t596 => (some t596))) = some r := h
 clear h
 obtain ⟨t595, A5, H⟩ := xO H
 (try dsimp only at H)
 obtain ⟨t596, A6, H⟩ := xO H
 (try dsimp only at H)
 obtain rfl := Option.some.inj H
 go_enter Try.func350, Try.ntmps350
 try go_wp2_with (first | (refine xg 4 rfl ?_; refine xV 4 #[.int .i64 a0_0, .int .i64 a0_1, .int .i64 a0_2, .int .i64 a0_3, .int .i64 a0_4, .bool a0_5] 91 ?_; intro gb594 hg w7 hbox hb; have BK594 := xA (hbox); have GW594 := xgw hg (below_size (xB HB.out)); have GE594 := GW594; replace HB := xA (below_step (xB HB.out) hb); clear hb hbox hg))
 replace BK594 := xA (blk_drew BK594.out)
 replace HB := xA (below_drew1 HB.out)
 refine start_ (n := 9) (S := fun w' => w'.cell? ⟨gb594, 0, none⟩ = some (.int .i64 a0_0) ∧ w'.cell? ⟨gb594, 1, none⟩ = some (.int .i64 a0_1) ∧ w'.cell? ⟨gb594, 2, none⟩ = some (.int .i64 a0_2) ∧ w'.cell? ⟨gb594, 3, none⟩ = some (.int .i64 a0_3) ∧ w'.cell? ⟨gb594, 4, none⟩ = some (.int .i64 a0_4) ∧ w'.cell? ⟨gb594, 5, none⟩ = some (.bool a0_5)) (ds := []) x19a16 (by kernel_rfl) rfl rfl ⟨(blk_cell BK594.out 0).trans rfl, (blk_cell BK594.out 1).trans rfl, (blk_cell BK594.out 2).trans rfl, (blk_cell BK594.out 3).trans rfl, (blk_cell BK594.out 4).trans rfl, (blk_cell BK594.out 5).trans rfl⟩ (fun hHeld => ?_); refine with_tabW spec_sdStep.tab1 spec_sdStep.bits1 (fun HT_ HW_ => ?_)
 generalize w7.drew = w8 at BK594 HB hHeld ⊢
 refine xP 0 9 x19a17 ?_
 refine xP 3 12 x19a18 ?_
 refine xP 4 13 x19a19 ?_
 refine xP 5 14 x19a20 ?_
 refine xT6 hHeld 1 10 x19a21 ?_
 refine xT6 hHeld 2 11 x19a22 ?_
 refine xU 6 15 x19a23 (fun K hK => ?_)
 refine xY Try.func394 #[.agg #[.int .i64 a0_0, .int .i64 a0_1, .int .i64 a0_2, .int .i64 a0_3, .int .i64 a0_4, .bool a0_5], .int .i64 a1, .int .i64 a2, .int .i64 a3] ?_
 with_reducible refine (spec_sdRaw.calls k a0_0 a0_1 a0_2 a0_3 a0_4 a0_5 a1 a2 a3 t595 _ A5.out).mono ?_
 rintro e w9 ⟨rfl, hb⟩
 refine ⟨_, rfl, ?_⟩
 replace BK594 := xkb BK594 hb
 replace HB := xA (below_step (xB1 GE594.out HB.out) hb)
 (try clear hb); (try clear hb2); (try clear hk); (try clear hi)
 refine hK.out _ _ ⟨(blk_cell BK594.out 0).trans rfl, (blk_cell BK594.out 1).trans rfl, (blk_cell BK594.out 2).trans rfl, (blk_cell BK594.out 3).trans rfl, (blk_cell BK594.out 4).trans rfl, (blk_cell BK594.out 5).trans rfl⟩ (fun hHeld => ?_)
 clear hK K
 refine xN ?_
 refine xU 7 16 x19a24 (fun K hK => ?_)
 refine xY Try.func256 #[.agg #[.int .i64 a0_4, .bool a0_5], .int .i64 t595] ?_
 with_reducible refine (spec_wdFit.calls a0_4 a0_5 t595 t596 _ A6.out).mono ?_
 rintro e w10 ⟨rfl, hb⟩
 refine ⟨_, rfl, ?_⟩
 replace BK594 := xkb BK594 hb
 replace HB := xA (below_step (xB1 GE594.out HB.out) hb)
 (try clear hb); (try clear hb2); (try clear hk); (try clear hi)
 refine hK.out _ _ ⟨(blk_cell BK594.out 0).trans rfl, (blk_cell BK594.out 1).trans rfl, (blk_cell BK594.out 2).trans rfl, (blk_cell BK594.out 3).trans rfl, (blk_cell BK594.out 4).trans rfl, (blk_cell BK594.out 5).trans rfl⟩ (fun hHeld => ?_)
 clear hK K
 refine xN ?_
 refine xP 8 8 x19a25 ?_
 refine xDn ?_
 try go_wp2
 go_ret
 exact ⟨xr, xB1 GE594.out HB.out⟩

/-! ### spec_SecondStep: function 155 -/
def spec_SecondStep.f (k : Nat) (a0_0 : Int) (a0_1 : Int) (a0_2 : Int) (a0_3 : Int) (a0_4 : Int) (a0_5 : Bool) (a1 : Int) (a2 : Int) (a3 : Int) : Option (Int × Bool) := (spec_sdAsked.f a0_0 a0_1 a0_2 a0_3 a0_4 a0_5 a1 a2 a3).bind fun t598 => (if t598 = true then ((spec_sdStep.f k a0_0 a0_1 a0_2 a0_3 a0_4 a0_5 a1 a2 a3).bind fun t599 => (some (t599, true))) else (some (0, false)))
theorem spec_SecondStep.mono : ∀ a0 a1 a2 a3 a4 a5 a6 a7 a8 k, LeO (spec_SecondStep.f k a0 a1 a2 a3 a4 a5 a6 a7 a8) (spec_SecondStep.f (k + 1) a0 a1 a2 a3 a4 a5 a6 a7 a8) := by
 intro a0 a1 a2 a3 a4 a5 a6 a7 a8 k
 have m0 := @spec_sdStep.mono
 unfold spec_SecondStep.f
 exact xM
set_option maxHeartbeats 200000000 in
set_option maxRecDepth 100000 in
theorem spec_SecondStep.calls (k : Nat) (a0_0 : Int) (a0_1 : Int) (a0_2 : Int) (a0_3 : Int) (a0_4 : Int) (a0_5 : Bool) (a1 : Int) (a2 : Int) (a3 : Int) (r1 : Int) (r2 : Bool) (w : World) (h : spec_SecondStep.f k a0_0 a0_1 a0_2 a0_3 a0_4 a0_5 a1 a2 a3 = some (r1, r2)) :
  Calls Try.prog 155 #[.agg #[.int .i64 a0_0, .int .i64 a0_1, .int .i64 a0_2, .int .i64 a0_3, .int .i64 a0_4, .bool a0_5], .int .i64 a1, .int .i64 a2, .int .i64 a3] w fun e w' => e = .returned (.tuple #[.int .i64 r1, .bool r2]) ∧ Below w.heap.size w w' := by
 have hu91 := Try.underlying91
 have HB := xA (Below.refl w.heap.size w)
 have H : ((spec_sdAsked.f a0_0 a0_1 a0_2 a0_3 a0_4 a0_5 a1 a2 a3).bind fun t598 => (if t598 = true then ((spec_sdStep.f k a0_0 a0_1 a0_2 a0_3 a0_4 a0_5 a1 a2 a3).bind fun t599 => (some (t599, true))) else (some (0, false)))) = some (r1, r2) := h
 clear h
 obtain ⟨t598, A5, H⟩ := xO H
 (try dsimp only at H)
 by_cases c6 : t598 = true
 rotate_left
 ·replace c6 := Bool.eq_false_iff.mpr c6
  subst c6
  rw [if_neg (show ¬ (false = true) by decide)] at H
  simp only [Option.some.injEq, Prod.mk.injEq] at H
  obtain ⟨rfl, rfl⟩ := H
  go_enter Try.func155, Try.ntmps155
  go_wp2_with (first | (refine xg 4 rfl ?_; refine xV 4 #[.int .i64 a0_0, .int .i64 a0_1, .int .i64 a0_2, .int .i64 a0_3, .int .i64 a0_4, .bool a0_5] 91 ?_; intro gb597 hg w13 hbox hb; have BK597 := xA (hbox); have GW597 := xgw hg (below_size (xB HB.out)); have GE597 := GW597; replace HB := xA (below_step (xB HB.out) hb); clear hb hbox hg; replace hz597 := blk_cell BK597.out; replace hy597 := blk_frozen BK597.out) | (refine xG (some 14) Try.func338 #[.agg #[.int .i64 a0_0, .int .i64 a0_1, .int .i64 a0_2, .int .i64 a0_3, .int .i64 a0_4, .bool a0_5], .int .i64 a1, .int .i64 a2, .int .i64 a3] ?_; (with_reducible refine (spec_sdAsked.calls a0_0 a0_1 a0_2 a0_3 a0_4 a0_5 a1 a2 a3 false _ A5.out).mono ?_); rintro e w15 ⟨rfl, hb⟩; refine ⟨_, rfl, ?_⟩; replace BK597 := xkb BK597 hb; replace HB := xA (below_step (xB1 GE597.out HB.out) hb); (try clear hb)))
  go_ret2
  exact ⟨xr, xB1 GE597.out HB.out⟩

 subst c6
 rw [if_pos rfl] at H
 obtain ⟨t599, A7, H⟩ := xO H
 (try dsimp only at H)
 simp only [Option.some.injEq, Prod.mk.injEq] at H
 obtain ⟨rfl, rfl⟩ := H
 go_enter Try.func155, Try.ntmps155
 go_wp2_with (first | (refine xq rfl ?_; first | (refine xG (some 14) Try.func338 #[.agg #[.int .i64 a0_0, .int .i64 a0_1, .int .i64 a0_2, .int .i64 a0_3, .int .i64 a0_4, .bool a0_5], .int .i64 a1, .int .i64 a2, .int .i64 a3] ?_; (with_reducible refine (spec_sdAsked.calls a0_0 a0_1 a0_2 a0_3 a0_4 a0_5 a1 a2 a3 true _ A5.out).mono ?_); rintro e w10 ⟨rfl, hb⟩; refine ⟨_, rfl, ?_⟩; replace BK597 := xkb BK597 hb; replace HB := xA (below_step (xB1 GE597.out HB.out) hb); (try clear hb); replace hz597 := blk_cell BK597.out; replace hy597 := blk_frozen BK597.out) | (refine xG (some 20) Try.func350 #[.agg #[.int .i64 a0_0, .int .i64 a0_1, .int .i64 a0_2, .int .i64 a0_3, .int .i64 a0_4, .bool a0_5], .int .i64 a1, .int .i64 a2, .int .i64 a3] ?_; (with_reducible refine (spec_sdStep.calls k a0_0 a0_1 a0_2 a0_3 a0_4 a0_5 a1 a2 a3 t599 _ A7.out).mono ?_); rintro e w12 ⟨rfl, hb⟩; refine ⟨_, rfl, ?_⟩; replace BK597 := xkb BK597 hb; replace HB := xA (below_step (xB1 GE597.out HB.out) hb); (try clear hb))) | (refine xg 4 rfl ?_; refine xV 4 #[.int .i64 a0_0, .int .i64 a0_1, .int .i64 a0_2, .int .i64 a0_3, .int .i64 a0_4, .bool a0_5] 91 ?_; intro gb597 hg w8 hbox hb; have BK597 := xA (hbox); have GW597 := xgw hg (below_size (xB HB.out)); have GE597 := GW597; replace HB := xA (below_step (xB HB.out) hb); clear hb hbox hg; replace hz597 := blk_cell BK597.out; replace hy597 := blk_frozen BK597.out))
 go_ret2
 exact ⟨xr, xB1 GE597.out HB.out⟩
/-! ### impl_IsSecond: function 156 -/
def impl_IsSecond.f (a0_0 : Int) (a0_1 : Int) (a0_2 : Int) (a0_3 : Int) (a0_4 : Int) (a0_5 : Bool) : Option (Bool) := (impl_isSecond.f a0_0 a0_1 a0_2 a0_3 a0_4 a0_5).bind fun t601 => (some t601)
set_option maxHeartbeats 200000000 in
set_option maxRecDepth 100000 in
theorem impl_IsSecond.calls (a0_0 : Int) (a0_1 : Int) (a0_2 : Int) (a0_3 : Int) (a0_4 : Int) (a0_5 : Bool) (r : Bool) (w : World) (h : impl_IsSecond.f a0_0 a0_1 a0_2 a0_3 a0_4 a0_5 = some r) :
  Calls Try.prog 156 #[.agg #[.int .i64 a0_0, .int .i64 a0_1, .int .i64 a0_2, .int .i64 a0_3, .int .i64 a0_4, .bool a0_5]] w fun e w' => e = .returned (.bool r) ∧ Below w.heap.size w w' := by
 have hu91 := Try.underlying91
 have HB := xA (Below.refl w.heap.size w)
 have H : ((impl_isSecond.f a0_0 a0_1 a0_2 a0_3 a0_4 a0_5).bind fun t601 => (some t601)) = some r := h
 clear h
 obtain ⟨t601, A2, H⟩ := xO H
 (try dsimp only at H)
 obtain rfl := Option.some.inj H
 go_enter Try.func156, Try.ntmps156
 go_wp2_with (first | (refine xg 1 rfl ?_; refine xV 1 #[.int .i64 a0_0, .int .i64 a0_1, .int .i64 a0_2, .int .i64 a0_3, .int .i64 a0_4, .bool a0_5] 91 ?_; intro gb600 hg w3 hbox hb; have BK600 := xA (hbox); have GW600 := xgw hg (below_size (xB HB.out)); have GE600 := GW600; replace HB := xA (below_step (xB HB.out) hb); clear hb hbox hg; obtain ⟨hcz4_0, hcz4_1, hcz4_2, hcz4_3, hcz4_4, hcz4_5, hfz4_0, hfz4_1, hfz4_2, hfz4_3, hfz4_4, hfz4_5⟩ := xZ6 BK600.out) | (refine xG (some 4) Try.func344 #[.agg #[.int .i64 a0_0, .int .i64 a0_1, .int .i64 a0_2, .int .i64 a0_3, .int .i64 a0_4, .bool a0_5]] ?_; (with_reducible refine (impl_isSecond.calls a0_0 a0_1 a0_2 a0_3 a0_4 a0_5 t601 _ A2.out).mono ?_); rintro e w5 ⟨rfl, hb⟩; refine ⟨_, rfl, ?_⟩; replace BK600 := xkb BK600 hb; replace HB := xA (below_step (xB1 GE600.out HB.out) hb); (try clear hb)))
 go_ret
 exact ⟨xr, xB1 GE600.out HB.out⟩

/-! ### spec_IsSecond: function 157 -/
def spec_IsSecond.f (a0_0 : Int) (a0_1 : Int) (a0_2 : Int) (a0_3 : Int) (a0_4 : Int) (a0_5 : Bool) : Option (Bool) := (spec_sdGood.f a0_0 a0_1 a0_2 a0_3 a0_4 a0_5).bind fun t603 => (some t603)
set_option maxHeartbeats 200000000 in
set_option maxRecDepth 100000 in
theorem spec_IsSecond.calls (a0_0 : Int) (a0_1 : Int) (a0_2 : Int) (a0_3 : Int) (a0_4 : Int) (a0_5 : Bool) (r : Bool) (w : World) (h : spec_IsSecond.f a0_0 a0_1 a0_2 a0_3 a0_4 a0_5 = some r) :
  Calls Try.prog 157 #[.agg #[.int .i64 a0_0, .int .i64 a0_1, .int .i64 a0_2, .int .i64 a0_3, .int .i64 a0_4, .bool a0_5]] w fun e w' => e = .returned (.bool r) ∧ Below w.heap.size w w' := by
 have hu91 := Try.underlying91
 have HB := xA (Below.refl w.heap.size w)
 have H : ((spec_sdGood.f a0_0 a0_1 a0_2 a0_3 a0_4 a0_5).bind fun t603 => (some t603)) = some r := h
 clear h
 obtain ⟨t603, A2, H⟩ := xO H
 (try dsimp only at H)
 obtain rfl := Option.some.inj H
 go_enter Try.func157, Try.ntmps157
 go_wp2_with (first | (refine xg 1 rfl ?_; refine xV 1 #[.int .i64 a0_0, .int .i64 a0_1, .int .i64 a0_2, .int .i64 a0_3, .int .i64 a0_4, .bool a0_5] 91 ?_; intro gb602 hg w3 hbox hb; have BK602 := xA (hbox); have GW602 := xgw hg (below_size (xB HB.out)); have GE602 := GW602; replace HB := xA (below_step (xB HB.out) hb); clear hb hbox hg; obtain ⟨hcz4_0, hcz4_1, hcz4_2, hcz4_3, hcz4_4, hcz4_5, hfz4_0, hfz4_1, hfz4_2, hfz4_3, hfz4_4, hfz4_5⟩ := xZ6 BK602.out) | (refine xG (some 4) Try.func345 #[.agg #[.int .i64 a0_0, .int .i64 a0_1, .int .i64 a0_2, .int .i64 a0_3, .int .i64 a0_4, .bool a0_5]] ?_; (with_reducible refine (spec_sdGood.calls a0_0 a0_1 a0_2 a0_3 a0_4 a0_5 t603 _ A2.out).mono ?_); rintro e w5 ⟨rfl, hb⟩; refine ⟨_, rfl, ?_⟩; replace BK602 := xkb BK602 hb; replace HB := xA (below_step (xB1 GE602.out HB.out) hb); (try clear hb)))
 go_ret
 exact ⟨xr, xB1 GE602.out HB.out⟩

end Go.Proofs.Ytjplcongellcmaa.PFnPairsRun
