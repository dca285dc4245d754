/- What each Go function that the statement FnFirstCycles reaches answers, proved call by call. No condition beyond those that the theorems print. (Written by wip/tools/xprint.py of this repo, over the kit's print.) -/
import Derived.Test.YtjplcongellcmaaPFnFirstCyclesx0
import Derived.Test.YtjplcongellcmaaPFnFirstCyclesx1
import Derived.Test.YtjplcongellcmaaPFnFirstCyclesx2
import Derived.Test.YtjplcongellcmaaPFnFirstCyclesx3
import Derived.Test.YtjplcongellcmaaPFnFirstCyclesx4
import Derived.Test.YtjplcongellcmaaPFnFirstCyclesx5
import Derived.Test.YtjplcongellcmaaPFnFirstCyclesx8
import Derived.Test.YtjplcongellcmaaPFnFirstCyclesx9
namespace Go.Proofs.Ytjplcongellcmaa.PFnFirstCycles
open Go.RowKit Go.Proofs.YtjplcongellcmaaW.PrintWords Go.Proofs.YtjplcongellcmaaW.PrintLast Go.Proofs.YtjplcongellcmaaW.PrintMore
attribute [local go_sem] max2_int min2_int max_two min_two max_three min_three max_four min_four   -- for this text's walks alone
set_option linter.unusedVariables false
set_option linter.unusedSimpArgs false
def x13a0 : Array Bool := #[Zz,Zz,Zz,Zz,Zz,Zz,Zz,Zz,Zz,Zz]
def x13a1 : Array Bool := #[Zz,Yy,Zz,Zz,Zz,Zz,Zz,Zz,Zz,Zz]
def x13a2 : Array Bool := #[Zz,Yy,Yy,Zz,Zz,Zz,Zz,Zz,Zz,Zz]
def x13a3 : Array Bool := #[Zz,Yy,Yy,Zz,Zz,Yy,Zz,Zz,Zz,Zz]
def x13a4 : Array Bool := #[Yy,Yy,Yy,Zz,Zz,Yy,Zz,Zz,Zz,Zz]
def x13a5 : Array Bool := #[Yy,Yy,Yy,Yy,Zz,Yy,Zz,Zz,Zz,Zz]
def x13a6 : Array Bool := #[Yy,Yy,Yy,Yy,Yy,Yy,Zz,Zz,Zz,Zz]
def x13a7 : Array Bool := #[Yy,Yy,Yy,Yy,Yy,Yy,Yy,Zz,Zz,Zz]
def x13a8 : Array Bool := #[Yy,Yy,Yy,Yy,Yy,Yy,Yy,Yy,Zz,Zz]
def x13a9 : Array Bool := #[Yy,Yy,Yy,Yy,Yy,Yy,Yy,Yy,Yy,Zz]
def x13a10 : Array Bool := #[Yy,Yy,Yy,Yy,Yy,Yy,Yy,Yy,Yy,Yy]

/-! ### spec_DrawNumbersBefore: function 120 -/
def spec_DrawNumbersBefore.f (k : Nat) (l0 : List Int) : Option (Int × Int × Int × Int × Bool × Int × Int) := (spec_l1Cur_first.f l0 0 0 8).bind fun bt530 => ((spec_l1Cur_inWord.f k l0 bt530.2.2.2.2.2.1 bt530.2.2.2.2.2.2 bt530.2.2.2.1 bt530.2.2.2.2.1).bind fun bt538 => ((spec_l1Cur_sample.f l0 bt538.2.1 bt538.2.2 9).bind fun bt541 => (some (bt530.1, bt530.2.1, bt530.2.2.1, bt530.2.2.2.1, bt530.2.2.2.2.1, bt538.1, bt541.1))))
theorem spec_DrawNumbersBefore.mono : ∀ a0 k, LeO (spec_DrawNumbersBefore.f k a0) (spec_DrawNumbersBefore.f (k + 1) a0) := by
 intro a0 k
 have m0 := @spec_l1Cur_inWord.mono
 unfold spec_DrawNumbersBefore.f
 exact xM
def spec_DrawNumbersBefore.T3 : Bool × List (List Nat × List Nat) := (true, [([], []), ([], []), ([], []), ([2], [2]), ([1, 3], [1, 3]), ([], []), ([5, 4], [5]), ([0, 6, 0], [0]), ([4, 7, 0, 1, 2, 3, 4, 7], [4]), ([6, 8, 0, 1, 2, 3, 4, 5, 6, 7, 8], [6])])
def spec_DrawNumbersBefore.B3 : List Nat := [0, 0, 0, 4, 14, 0, 62, 127, 255, 511]
theorem spec_DrawNumbersBefore.tab3 : rtab .any (opsOf Try.f120 3) = spec_DrawNumbersBefore.T3 := by kernel_rfl
theorem spec_DrawNumbersBefore.bits3 : waitsOk spec_DrawNumbersBefore.T3.2 spec_DrawNumbersBefore.B3 = true := by kernel_rfl
set_option maxHeartbeats 200000000 in
set_option maxRecDepth 100000 in
theorem spec_DrawNumbersBefore.calls (k : Nat) (A0 : Option Addr) (c0 : Nat) (l0 : List Int) (r1 : Int) (r2 : Int) (r3 : Int) (r4 : Int) (r5 : Bool) (r6 : Int) (r7 : Int) (w : World) (hr0 : Kd.C (Kd.int .u8) w A0 l0.length l0) (hc0 : l0.length ≤ c0) (h : spec_DrawNumbersBefore.f k l0 = some (r1, r2, r3, r4, r5, r6, r7)) :
  Calls Try.prog 120 #[.slice A0 l0.length c0] w fun e w' => e = .returned (.tuple #[.agg #[.int .i64 r1, .int .i64 r2, .int .i64 r3, .int .i64 r4, .bool r5], .int .i64 r6, .int .i64 r7]) ∧ Below w.heap.size w w' := by
 have hu62 := Try.underlying62
 have hu129 := Try.underlying129
 have hu46 := Try.underlying46
 have HR0 := xA hr0
 have HC0 := xA hc0
 clear hr0 hc0
 have HB := xA (Below.refl w.heap.size w)
 have H : ((spec_l1Cur_first.f l0 0 0 8).bind fun bt530 => ((spec_l1Cur_inWord.f k l0 bt530.2.2.2.2.2.1 bt530.2.2.2.2.2.2 bt530.2.2.2.1 bt530.2.2.2.2.1).bind fun bt538 => ((spec_l1Cur_sample.f l0 bt538.2.1 bt538.2.2 9).bind fun bt541 => (some (bt530.1, bt530.2.1, bt530.2.2.1, bt530.2.2.2.1, bt530.2.2.2.2.1, bt538.1, bt541.1))))) = some (r1, r2, r3, r4, r5, r6, r7) := h
 clear h
 replace H := Option.bind_eq_some_iff.mp H
 obtain ⟨⟨t530, t531, t532, t533, t534, t535, t536⟩, A20, H⟩ := H
 (try dsimp only at H)
 have A2 := xA A20
 clear A20
 replace H := Option.bind_eq_some_iff.mp H
 obtain ⟨⟨t538, t539, t540⟩, A30, H⟩ := H
 (try dsimp only at H)
 have A3 := xA A30
 clear A30
 replace H := Option.bind_eq_some_iff.mp H
 obtain ⟨⟨t541, t542, t543⟩, A40, H⟩ := H
 (try dsimp only at H)
 have A4 := xA A40
 clear A40
 simp only [Option.some.injEq, Prod.mk.injEq] at H
 obtain ⟨rfl, rfl, rfl, rfl, rfl, rfl, rfl⟩ := H
 go_enter Try.func120, Try.ntmps120
 try go_wp2_with (first | (refine xg 2 rfl ?_; refine xV 2 #[.int .i64 0, .int .i64 0, .int .i64 0, .int .i64 0, .bool false] 62 ?_; intro gb528 hg w5 hbox hb; have BK528 := xA (hbox); have GW528 := xgw hg (below_size (xB HB.out)); have GE528 := GW528; replace HB := xA (below_step (xB HB.out) hb); clear hb hbox hg) | (refine xg 9 rfl ?_; refine xV 9 #[.slice A0 l0.length c0, .int .i64 0, .int .u64 0] 129 ?_; intro gb529 hg w6 hbox hb; have HI529 := xA ((show IsS129 w _ gb529 l0 0 0 from ⟨_, _, hbox, (by rw [hg]; exact (below_size (xB1 GE528.out HB.out)) : w.heap.size ≤ gb529), HR0.out⟩)); replace HB := xA (below_step (xB1 GE528.out HB.out) hb); have NB528_529 := xnl hg BK528; have NB529_528 := xng hg BK528; replace BK528 := xkb BK528 hb; clear hb hbox hg) | (refine xG (some 11) Try.func281 #[.pointer (some ⟨gb529, 0, none⟩), .int .i64 8] ?_; (with_reducible refine (spec_l1Cur_first.calls gb529 l0 0 0 8 t530 t531 t532 t533 t534 t535 t536 w _ ?side1 ?side2 A2.out).mono ?_); (case side1 => exact xJ129_12_1 NB529_528.out HI529.out); (case side2 => exact xB2 (IsS129.ge HI529.out) GE528.out HB.out); rintro e w7 ⟨rfl, hi, hb, hk⟩; refine ⟨_, rfl, ?_⟩; replace BK528 := xkk hk BK528 NB528_529; replace HB := xA (hb); replace HI529 := xA (hi); (try clear hb hk hi)) | (refine xg 6 rfl ?_; refine xV 6 #[.int .i64 0, .int .i64 0, .int .i64 0, .int .i64 0, .bool false] 62 ?_; intro gb537 hg w8 hbox hb; have BK537 := xA (hbox); have GW537 := xgw hg (below_size (xB2 (IsS129.ge HI529.out) GE528.out HB.out)); have GE537 := GW537; replace HB := xA (below_step (xB2 (IsS129.ge HI529.out) GE528.out HB.out) hb); have NB528_537 := xnl hg BK528; have NB537_528 := xng hg BK528; replace BK528 := xkb BK528 hb; have NB529_537 := xA ((by rw [hg]; exact Nat.ne_of_lt (IsS129.lt (show IsS129 w _ gb529 l0 t535 t536 from xJ129_12_1 NB529_528.out HI529.out)) : gb529 ≠ gb537)); have NB537_529 := xA ((by rw [hg]; exact Nat.ne_of_gt (IsS129.lt (show IsS129 w _ gb529 l0 t535 t536 from xJ129_12_1 NB529_528.out HI529.out)) : gb537 ≠ gb529)); replace HI529 := xA (IsS129.below (xJ129_12_1 NB529_528.out HI529.out) hb); clear hb hbox hg; have hnb9 := NB537_528.out; have hnc9 := NB528_537.out; have hnb10 := NB537_529.out; have hnc10 := NB529_537.out; replace hz537 := blk_cell BK537.out; replace hy537 := blk_frozen BK537.out))
 have n0_ : Aside0 ((((((w8.setCell ⟨gb537, 0, none⟩ (.int .i64 t530)).setCell ⟨gb537, 1, none⟩ (.int .i64 t531)).setCell ⟨gb537, 2, none⟩ (.int .i64 t532)).setCell ⟨gb537, 3, none⟩ (.int .i64 t533)).setCell ⟨gb537, 4, none⟩ (.bool t534)).heap[gb528]? = some (.cells #[.int .i64 0, .int .i64 0, .int .i64 0, .int .i64 0, .bool false] 62 (0, 0))) := ⟨by (with_reducible repeat (first | refine blk_drewN ?_ _ | refine blk_drew ?_ | refine blk_alloc ?_ _)); refine blk_far ?_ NB528_537.out _; (with_reducible repeat (first | refine blk_drewN ?_ _ | refine blk_drew ?_ | refine blk_alloc ?_ _)); refine blk_far ?_ NB528_537.out _; (with_reducible repeat (first | refine blk_drewN ?_ _ | refine blk_drew ?_ | refine blk_alloc ?_ _)); refine blk_far ?_ NB528_537.out _; (with_reducible repeat (first | refine blk_drewN ?_ _ | refine blk_drew ?_ | refine blk_alloc ?_ _)); refine blk_far ?_ NB528_537.out _; (with_reducible repeat (first | refine blk_drewN ?_ _ | refine blk_drew ?_ | refine blk_alloc ?_ _)); refine blk_far ?_ NB528_537.out _; (with_reducible repeat (first | refine blk_drewN ?_ _ | refine blk_drew ?_ | refine blk_alloc ?_ _)); exact BK528.out⟩
 have n1_ : Aside0 ((((((w8.setCell ⟨gb537, 0, none⟩ (.int .i64 t530)).setCell ⟨gb537, 1, none⟩ (.int .i64 t531)).setCell ⟨gb537, 2, none⟩ (.int .i64 t532)).setCell ⟨gb537, 3, none⟩ (.int .i64 t533)).setCell ⟨gb537, 4, none⟩ (.bool t534)).heap[gb537]? = some (.cells #[.int .i64 t530, .int .i64 t531, .int .i64 t532, .int .i64 t533, .bool t534] 62 (0, 0))) := ⟨by (with_reducible repeat (first | refine blk_drewN ?_ _ | refine blk_drew ?_ | refine blk_alloc ?_ _)); refine blk_put (cs := #[.int .i64 t530, .int .i64 t531, .int .i64 t532, .int .i64 t533, .bool false]) ?_ 4 _ rfl; (with_reducible repeat (first | refine blk_drewN ?_ _ | refine blk_drew ?_ | refine blk_alloc ?_ _)); refine blk_put (cs := #[.int .i64 t530, .int .i64 t531, .int .i64 t532, .int .i64 0, .bool false]) ?_ 3 _ rfl; (with_reducible repeat (first | refine blk_drewN ?_ _ | refine blk_drew ?_ | refine blk_alloc ?_ _)); refine blk_put (cs := #[.int .i64 t530, .int .i64 t531, .int .i64 0, .int .i64 0, .bool false]) ?_ 2 _ rfl; (with_reducible repeat (first | refine blk_drewN ?_ _ | refine blk_drew ?_ | refine blk_alloc ?_ _)); refine blk_put (cs := #[.int .i64 t530, .int .i64 0, .int .i64 0, .int .i64 0, .bool false]) ?_ 1 _ rfl; (with_reducible repeat (first | refine blk_drewN ?_ _ | refine blk_drew ?_ | refine blk_alloc ?_ _)); refine blk_put (cs := #[.int .i64 0, .int .i64 0, .int .i64 0, .int .i64 0, .bool false]) ?_ 0 _ rfl; (with_reducible repeat (first | refine blk_drewN ?_ _ | refine blk_drew ?_ | refine blk_alloc ?_ _)); exact BK537.out⟩
 have n2_ : Aside0 (IsS129 w (((((w8.setCell ⟨gb537, 0, none⟩ (.int .i64 t530)).setCell ⟨gb537, 1, none⟩ (.int .i64 t531)).setCell ⟨gb537, 2, none⟩ (.int .i64 t532)).setCell ⟨gb537, 3, none⟩ (.int .i64 t533)).setCell ⟨gb537, 4, none⟩ (.bool t534)) gb529 l0 t535 t536) := ⟨xJ129_12_2 NB529_528.out NB529_537.out HI529.out⟩
 have n3_ : Aside0 (Below w.heap.size w (((((w8.setCell ⟨gb537, 0, none⟩ (.int .i64 t530)).setCell ⟨gb537, 1, none⟩ (.int .i64 t531)).setCell ⟨gb537, 2, none⟩ (.int .i64 t532)).setCell ⟨gb537, 3, none⟩ (.int .i64 t533)).setCell ⟨gb537, 4, none⟩ (.bool t534))) := ⟨xB3 (IsS129.ge HI529.out) GE528.out GE537.out HB.out⟩
 (try clear BK528)
 (try clear BK537)
 (try clear HI529)
 (try clear HB)
 generalize (((((w8.setCell ⟨gb537, 0, none⟩ (.int .i64 t530)).setCell ⟨gb537, 1, none⟩ (.int .i64 t531)).setCell ⟨gb537, 2, none⟩ (.int .i64 t532)).setCell ⟨gb537, 3, none⟩ (.int .i64 t533)).setCell ⟨gb537, 4, none⟩ (.bool t534)) = w12 at n0_ n1_ n2_ n3_ ⊢
 have BK528 := n0_
 have BK537 := n1_
 have HI529 := n2_
 have HB := n3_
 clear n0_ n1_ n2_ n3_
 replace BK528 := xA (blk_drew BK528.out)
 replace BK537 := xA (blk_drew BK537.out)
 replace HI529 := xA (IsS129.drew HI529.out)
 replace HB := xA (below_drew1 HB.out)
 refine start_ (n := 10) (S := fun w' => w'.cell? ⟨gb537, 0, none⟩ = some (.int .i64 t530) ∧ w'.cell? ⟨gb537, 1, none⟩ = some (.int .i64 t531) ∧ w'.cell? ⟨gb537, 2, none⟩ = some (.int .i64 t532) ∧ w'.cell? ⟨gb537, 3, none⟩ = some (.int .i64 t533) ∧ w'.cell? ⟨gb537, 4, none⟩ = some (.bool t534)) (ds := []) x13a0 (by kernel_rfl) rfl rfl ⟨(blk_cell BK537.out 0).trans rfl, (blk_cell BK537.out 1).trans rfl, (blk_cell BK537.out 2).trans rfl, (blk_cell BK537.out 3).trans rfl, (blk_cell BK537.out 4).trans rfl⟩ (fun hHeld => ?_); refine with_tabW spec_DrawNumbersBefore.tab3 spec_DrawNumbersBefore.bits3 (fun HT_ HW_ => ?_)
 generalize w12.drew = w13 at BK528 BK537 HI529 HB hHeld ⊢
 refine xP 1 13 x13a1 ?_
 refine xP 2 14 x13a2 ?_
 refine xP 5 17 x13a3 ?_
 refine xT5 hHeld 0 12 x13a4 ?_
 refine xT5 hHeld 3 15 x13a5 ?_
 refine xU 4 16 x13a6 (fun K hK => ?_)
 refine xY Try.func282 #[.pointer (some ⟨gb529, 0, none⟩), .agg #[.int .i64 t533, .bool t534]] ?_
 with_reducible refine (spec_l1Cur_inWord.calls k gb529 l0 t535 t536 t533 t534 t538 t539 t540 w _ ?side1 ?side2 A3.out).mono ?_
 (case side1 => exact xJ129_12_2 NB529_528.out NB529_537.out HI529.out)
 (case side2 => exact xB3 (IsS129.ge HI529.out) GE528.out GE537.out HB.out)
 rintro e w14 ⟨rfl, hi, hb, hk⟩
 refine ⟨_, rfl, ?_⟩
 replace BK528 := xkk hk BK528 NB528_529
 replace BK537 := xkk hk BK537 NB537_529
 replace HB := xA (hb)
 replace HI529 := xA (hi)
 (try clear hb); (try clear hb2); (try clear hk); (try clear hi)
 refine hK.out _ _ ⟨(blk_cell BK537.out 0).trans rfl, (blk_cell BK537.out 1).trans rfl, (blk_cell BK537.out 2).trans rfl, (blk_cell BK537.out 3).trans rfl, (blk_cell BK537.out 4).trans rfl⟩ (fun hHeld => ?_)
 clear hK K
 refine xN ?_
 refine xU 6 18 x13a7 (fun K hK => ?_)
 refine xY Try.func301 #[.pointer (some ⟨gb529, 0, none⟩), .int .i64 9] ?_
 with_reducible refine (spec_l1Cur_sample.calls gb529 l0 t539 t540 9 t541 t542 t543 w _ ?side1 ?side2 A4.out).mono ?_
 (case side1 => exact xJ129_12_2 NB529_528.out NB529_537.out HI529.out)
 (case side2 => exact xB3 (IsS129.ge HI529.out) GE528.out GE537.out HB.out)
 rintro e w15 ⟨rfl, hi, hb, hk⟩
 refine ⟨_, rfl, ?_⟩
 replace BK528 := xkk hk BK528 NB528_529
 replace BK537 := xkk hk BK537 NB537_529
 replace HB := xA (hb)
 replace HI529 := xA (hi)
 (try clear hb); (try clear hb2); (try clear hk); (try clear hi)
 refine hK.out _ _ ⟨(blk_cell BK537.out 0).trans rfl, (blk_cell BK537.out 1).trans rfl, (blk_cell BK537.out 2).trans rfl, (blk_cell BK537.out 3).trans rfl, (blk_cell BK537.out 4).trans rfl⟩ (fun hHeld => ?_)
 clear hK K
 refine xN ?_
 refine one_ (i := 7) (N := none) x13a8 rfl rfl (one_of HT_.out (by kernel_rfl)) (by decide) (fun K hK => ?_)
 have hs16 : w15.cell? ⟨gb528, 0, none⟩ = some (.int .i64 0) := (blk_cell BK528.out 0).trans rfl
 have hfs16 := blk_frozen BK528.out 0
 have hns16_1 := NB537_528.out
 have hms16_1 := NB528_537.out
 have hs17 : w15.cell? ⟨gb528, 1, none⟩ = some (.int .i64 0) := (blk_cell BK528.out 1).trans rfl
 have hfs17 := blk_frozen BK528.out 1
 have hns17_1 := NB537_528.out
 have hms17_1 := NB528_537.out
 have hs18 : w15.cell? ⟨gb528, 2, none⟩ = some (.int .i64 0) := (blk_cell BK528.out 2).trans rfl
 have hfs18 := blk_frozen BK528.out 2
 have hns18_1 := NB537_528.out
 have hms18_1 := NB528_537.out
 have hs19 : w15.cell? ⟨gb528, 3, none⟩ = some (.int .i64 0) := (blk_cell BK528.out 3).trans rfl
 have hfs19 := blk_frozen BK528.out 3
 have hns19_1 := NB537_528.out
 have hms19_1 := NB528_537.out
 have hs20 : w15.cell? ⟨gb528, 4, none⟩ = some (.bool false) := (blk_cell BK528.out 4).trans rfl
 have hfs20 := blk_frozen BK528.out 4
 have hns20_1 := NB537_528.out
 have hms20_1 := NB528_537.out
 refine skip_ (w1 := ?_) (by rfl) rfl ?_ ?_
 rotate_left
 ·go_simp
  rfl
 refine hK.out _ _ ⟨(xCf1 NB537_528.out hHeld.1), (xCf1 NB537_528.out hHeld.2.1), (xCf1 NB537_528.out hHeld.2.2.1), (xCf1 NB537_528.out hHeld.2.2.2.1), (xCf1 NB537_528.out hHeld.2.2.2.2)⟩ (fun hHeld => ?_)
 clear hK K
 refine xP 8 3 x13a9 ?_
 refine xP 9 4 x13a10 ?_
 refine xDn ?_
 try go_wp2
 refine bodyPost_ret (results_ctt rfl _ _ gb528 62 #[.int .i64 t530, .int .i64 t531, .int .i64 t532, .int .i64 t533, .bool t534] (0, 0) _ rfl (xPt0 BK528.out) Try.underlying62 rfl (by kernel_rfl)) rfl ?_
 exact ⟨xr, xB3 (IsS129.ge HI529.out) GE528.out GE537.out HB.out⟩

-- NOT PRINTED: function 313 (impl_NumbersBefore_c1)

theorem impl_NumbersBefore_xRstep {α : Type} {d : Kd α} {e base : Nat} {w w1 : World} {ok : Nat → Prop} {v : Value} {xs : List α} (h : d.R e w base ok v xs) (hm : ∀ k, ok k → k < w.heap.size → w1.heap[k]? = w.heap[k]?) : d.R e w1 base ok v xs :=
 Kd.R_mono (Kd.R_move (Kd.R_bound h) (fun k hk => hm k hk.1 hk.2.2.1)) (fun _ hk => hk.1)
theorem impl_NumbersBefore_xZ5c {w : World} {g : Nat} {t : TypeId} {v0 v1 v2 v3 v4 : Value} (h : w.heap[g]? = some (.cells #[v0, v1, v2, v3, v4] t (0, 0))) : w.cell? ⟨g, 0, none⟩ = some v0 ∧ w.cell? ⟨g, 1, none⟩ = some v1 ∧ w.cell? ⟨g, 2, none⟩ = some v2 ∧ w.cell? ⟨g, 3, none⟩ = some v3 ∧ w.cell? ⟨g, 4, none⟩ = some v4 ∧ True := ⟨(blk_cell h 0).trans rfl, (blk_cell h 1).trans rfl, (blk_cell h 2).trans rfl, (blk_cell h 3).trans rfl, (blk_cell h 4).trans rfl, trivial⟩
theorem impl_NumbersBefore_xSl {α : Type} {d : Kd α} {e base : Nat} {w : World} {ok : Nat → Prop} {v : Value} {xs : List α} (h : d.R e w base ok v xs) : ∃ m A c, v = .slice A m c := by
 obtain ⟨A, c, h⟩ := Kd.R_slice h
 exact ⟨_, A, c, h⟩
theorem impl_NumbersBefore_xBne {w : World} {g g' : Nat} {t t' : TypeId} {cs cs' : Array Value} (h : w.heap[g]? = some (.cells cs t (0, 0))) (h' : w.heap[g']? = some (.cells cs' t' (0, 0))) (hne : t ≠ t') : g ≠ g' := by
 rintro rfl
 rw [h] at h'
 injection h' with h'
 injection h' with _ h'
 exact hne h'
theorem impl_NumbersBefore_xRset {α : Type} {d : Kd α} {e base : Nat} {w : World} {ok : Nat → Prop} {v : Value} {xs : List α} (h : d.R e w base ok v xs) {g t : Nat} {cells : Array Value} (hb : w.heap[g]? = some (.cells cells t (0, 0))) (ht : ∀ q, q ∈ e :: d.E → q ≠ t) (u : Value) : d.R e (w.setCell ⟨g, 0, none⟩ u) base ok v xs :=
 Kd.R_mono (Kd.R_move (Kd.R_bound h) (fun k hk => Below.heap_setCell w _ u k (by
  rintro rfl
  obtain ⟨_, _, _, q, hq, cells', hc⟩ := hk
  rw [hc] at hb
  injection hb with hb
  injection hb with _ hb
  exact ht q hq hb))) (fun _ hk => hk.1)
theorem impl_NumbersBefore_xZ1c {w : World} {g : Nat} {t : TypeId} {v0 : Value} (h : w.heap[g]? = some (.cells #[v0] t (0, 0))) : w.cell? ⟨g, 0, none⟩ = some v0 ∧ w.frozen? ⟨g, 0, none⟩ = false := ⟨(blk_cell h 0).trans rfl, blk_frozen h 0⟩
theorem impl_NumbersBefore.xSv {P : Program} {ops : Array Oper} {Q : Exit → Act → World → Prop} {rest : List Oper} {o : Oper} {a : Act} {W : World} {g : Nat} {t ty : TypeId} {c0 : Value} {A : Option Addr} {m c : Nat} (x y : Tmp) (hb : W.heap[g]? = some (.cells #[c0] t (0, 0)))
    (h : ∀ w', w' = W.setCell ⟨g, 0, none⟩ (.slice A m c) → wpList P ops Q rest a w')
    (ho : o.op = .store ty (.tmp x) (.tmp y) := by rfl) (hgd : o.guard = none := by rfl) (hN : o.dst = none := by rfl) (hx : a.eval (.tmp x) = .pointer (some ⟨g, 0, none⟩) := by first | rfl | (go_simp; done) | (go_simp; rfl)) (hy : a.eval (.tmp y) = .slice A m c := by first | rfl | (go_simp; done) | (go_simp; rfl))
    (hi : (P.info? ty).map (·.size) = some 1 := by kernel_rfl) : wpList P ops Q (o :: rest) a W := by
  have hr := run_storeCells_cells (P := P) g 0 [.slice A m c] 0 W (fun j hj => by rw [show 0 + 0 + j = j by omega, blk_cell hb j]; simp at hj ⊢; exact hj) (fun j _ => blk_frozen hb _) (fun v hv => by simp at hv; subst hv; rfl)
  have hr' : (storeCells ⟨g, 0, none⟩ [.slice A m c]).run P W = .ok () (W.setCell ⟨g, 0, none⟩ (.slice A m c)) := hr.trans rfl
  have hrun : (execOp a.eval o).run P W = .ok .skip (W.setCell ⟨g, 0, none⟩ (.slice A m c)) := by
    cases hq : P.info? ty with
    | none => simp [hq] at hi
    | some i =>
      have hs : i.size = 1 := by simpa [hq] using hi
      unfold execOp
      simp only [ho, hx, hy, Instr.storeAt, Instr.sureAddr, Sem.run_bind, Sem.run_pure, Result.andThen_ok]
      simp [storeVar, sizeOf, typeInfo, hq, Value.cells, hs, hr']
  exact store_event hgd ho hN hrun h
/-- the boxes of f and of the numbers, the box of the list, and the list -/
def impl_NumbersBefore_I (w0 : World) (base q0 q1 q2 q3 : Nat) (b0 b1 b2 b3 : Int) (b4 : Bool) (x z : Int) (v : Value) (xs : List Int) (w : World) : Prop :=
 w.heap[q0]? = some (.cells #[.int .i64 b0, .int .i64 b1, .int .i64 b2, .int .i64 b3, .bool b4] 62 (0, 0)) ∧ q0 < base ∧ w.heap[q1]? = some (.cells #[.int .i64 x] 3 (0, 0)) ∧ q1 < base ∧ w.heap[q2]? = some (.cells #[.int .i64 z] 3 (0, 0)) ∧ q2 < base ∧ w.heap[q3]? = some (.cells #[v] 24 (0, 0)) ∧ Kd.R (Kd.int .i64) 3 w base (fun _ => True) v xs ∧ Below w0.heap.size w0 w ∧ w0.heap.size ≤ base ∧ base ≤ w.heap.size ∧ w0.heap.size ≤ q3
theorem impl_NumbersBefore_I.below {w0 : World} {base q0 q1 q2 q3 : Nat} {b0 b1 b2 b3 : Int} {b4 : Bool} {x z : Int} {v : Value} {xs : List Int} {w w' : World} (h : impl_NumbersBefore_I w0 base q0 q1 q2 q3 b0 b1 b2 b3 b4 x z v xs w) (hb : Below w.heap.size w w') : impl_NumbersBefore_I w0 base q0 q1 q2 q3 b0 b1 b2 b3 b4 x z v xs w' := by
 obtain ⟨hq0, hg0, hi0, hj0, hi1, hj1, ho_, hr, hB, h1, h2, h3⟩ := h
 exact ⟨blk_below hq0 hb, hg0, blk_below hi0 hb, hj0, blk_below hi1 hb, hj1, blk_below ho_ hb, Kd.R_below hr hb, below_step hB hb, h1, Nat.le_trans h2 hb.size, h3⟩
theorem impl_NumbersBefore_I.row {w0 : World} {base q0 q1 q2 q3 : Nat} {b0 b1 b2 b3 : Int} {b4 : Bool} {x z : Int} {v : Value} {xs : List Int} {w : World} (h : impl_NumbersBefore_I w0 base q0 q1 q2 q3 b0 b1 b2 b3 b4 x z v xs w) : Kd.R (Kd.int .i64) 3 w base (fun _ => True) v xs := by
 obtain ⟨hq0, hg0, hi0, hj0, hi1, hj1, ho_, hr, hB, h1, h2, h3⟩ := h
 exact hr
theorem impl_NumbersBefore_I.base_le {w0 : World} {base q0 q1 q2 q3 : Nat} {b0 b1 b2 b3 : Int} {b4 : Bool} {x z : Int} {v : Value} {xs : List Int} {w : World} (h : impl_NumbersBefore_I w0 base q0 q1 q2 q3 b0 b1 b2 b3 b4 x z v xs w) : base ≤ w.heap.size := by
 obtain ⟨hq0, hg0, hi0, hj0, hi1, hj1, ho_, hr, hB, h1, h2, h3⟩ := h
 exact h2
theorem impl_NumbersBefore_I.bel {w0 : World} {base q0 q1 q2 q3 : Nat} {b0 b1 b2 b3 : Int} {b4 : Bool} {x z : Int} {v : Value} {xs : List Int} {w : World} (h : impl_NumbersBefore_I w0 base q0 q1 q2 q3 b0 b1 b2 b3 b4 x z v xs w) : w0.heap.size ≤ base ∧ Below w0.heap.size w0 w := by
 obtain ⟨hq0, hg0, hi0, hj0, hi1, hj1, ho_, hr, hB, h1, h2, h3⟩ := h
 exact ⟨h1, hB⟩
theorem impl_NumbersBefore_I.fin {w0 : World} {base q0 q1 q2 q3 : Nat} {b0 b1 b2 b3 : Int} {b4 : Bool} {x z : Int} {v : Value} {xs : List Int} {w w' : World} (h : impl_NumbersBefore_I w0 base q0 q1 q2 q3 b0 b1 b2 b3 b4 x z v xs w) (hb : Below w.heap.size w w') : Kd.R (Kd.int .i64) 3 w' w0.heap.size (fun _ => True) v xs ∧ Below w0.heap.size w0 w' :=
 ⟨Kd.R_lower (h.below hb).row (h.below hb).bel.1, (h.below hb).bel.2⟩
/-- a new row, not yet put into its box -/
structure impl_NumbersBefore_J (w0 : World) (base q0 q1 q2 q3 : Nat) (b0 b1 b2 b3 : Int) (b4 : Bool) (x z : Int) (u v : Value) (xs : List Int) (w : World) : Prop where
 old : w.heap[q0]? = some (.cells #[.int .i64 b0, .int .i64 b1, .int .i64 b2, .int .i64 b3, .bool b4] 62 (0, 0)) ∧ q0 < base ∧ w.heap[q1]? = some (.cells #[.int .i64 x] 3 (0, 0)) ∧ q1 < base ∧ w.heap[q2]? = some (.cells #[.int .i64 z] 3 (0, 0)) ∧ q2 < base
 box : w.heap[q3]? = some (.cells #[u] 24 (0, 0))
 row : Kd.R (Kd.int .i64) 3 w base (fun _ => True) v xs
 bel : Below w0.heap.size w0 w ∧ w0.heap.size ≤ base ∧ base ≤ w.heap.size ∧ w0.heap.size ≤ q3
theorem impl_NumbersBefore_I.put {w0 : World} {base q0 q1 q2 q3 : Nat} {b0 b1 b2 b3 : Int} {b4 : Bool} {x z : Int} {v : Value} {xs : List Int} {w w1 : World} {v1 : Value} {ys : List Int} (h : impl_NumbersBefore_I w0 base q0 q1 q2 q3 b0 b1 b2 b3 b4 x z v xs w) (ho : Kd.R (Kd.int .i64) 3 w1 base (fun _ => True) v1 ys) (hb : Below base w w1) (hg : w.grownBy w1 v.ownBlock) : impl_NumbersBefore_J w0 base q0 q1 q2 q3 b0 b1 b2 b3 b4 x z v v1 ys w1 := by
 obtain ⟨hq0, hg0, hi0, hj0, hi1, hj1, ho_, hr, hB, h1, h2, h3⟩ := h
 exact ⟨⟨blk_grown hq0 hg (fun e_ => Nat.not_le_of_lt hg0 (Kd.R_base hr q0 e_.symm)), hg0, blk_grown hi0 hg (fun e_ => Nat.not_le_of_lt hj0 (Kd.R_base hr q1 e_.symm)), hj0, blk_grown hi1 hg (fun e_ => Nat.not_le_of_lt hj1 (Kd.R_base hr q2 e_.symm)), hj1⟩, blk_grown ho_ hg (Kd.R_ne hr ho_ (by decide)), ho, ⟨hB.trans (hb.mono h1), h1, Nat.le_trans h2 hb.size, h3⟩⟩
theorem impl_NumbersBefore_J.stored {w0 : World} {base q0 q1 q2 q3 : Nat} {b0 b1 b2 b3 : Int} {b4 : Bool} {x z : Int} {u : Value} {A : Option Addr} {m c : Nat} {xs : List Int} {w w' : World} (h : impl_NumbersBefore_J w0 base q0 q1 q2 q3 b0 b1 b2 b3 b4 x z u (.slice A m c) xs w) (hw : w' = w.setCell ⟨q3, 0, none⟩ (.slice A m c)) : impl_NumbersBefore_I w0 base q0 q1 q2 q3 b0 b1 b2 b3 b4 x z (.slice A m c) xs w' := by
 subst hw
 obtain ⟨⟨hq0, hg0, hi0, hj0, hi1, hj1⟩, ho_, hr, hB, h1, h2, h3⟩ := h
 exact ⟨blk_far hq0 (p := ⟨q3, 0, none⟩) (impl_NumbersBefore_xBne hq0 ho_ (by decide)) _, hg0, blk_far hi0 (p := ⟨q3, 0, none⟩) (impl_NumbersBefore_xBne hi0 ho_ (by decide)) _, hj0, blk_far hi1 (p := ⟨q3, 0, none⟩) (impl_NumbersBefore_xBne hi1 ho_ (by decide)) _, hj1, blk_put ho_ 0 _ rfl, impl_NumbersBefore_xRset hr ho_ (by simp [Kd.int, Kd.scalar]) _, hB.setCell h3 _, h1, by simpa [World.setCell] using h2, h3⟩
theorem impl_NumbersBefore_I.sI {w0 : World} {base q0 q1 q2 q3 : Nat} {b0 b1 b2 b3 : Int} {b4 : Bool} {x z : Int} {v : Value} {xs : List Int} {w : World} (h : impl_NumbersBefore_I w0 base q0 q1 q2 q3 b0 b1 b2 b3 b4 x z v xs w) : w.cell? ⟨q0, 0, none⟩ = some (.int .i64 b0) ∧ w.cell? ⟨q0, 1, none⟩ = some (.int .i64 b1) ∧ w.cell? ⟨q0, 2, none⟩ = some (.int .i64 b2) ∧ w.cell? ⟨q0, 3, none⟩ = some (.int .i64 b3) ∧ w.cell? ⟨q0, 4, none⟩ = some (.bool b4) ∧ w.cell? ⟨q1, 0, none⟩ = some (.int .i64 x) ∧ w.cell? ⟨q2, 0, none⟩ = some (.int .i64 z) ∧ Aside0 (impl_NumbersBefore_I w0 base q0 q1 q2 q3 b0 b1 b2 b3 b4 x z v xs w) := by
 have HI := xA h
 obtain ⟨hq0, hg0, hi0, hj0, hi1, hj1, ho, hr, hB, h1, h2, h3⟩ := HI.out; obtain ⟨hcz_0, hcz_1, hcz_2, hcz_3, hcz_4, -⟩ := impl_NumbersBefore_xZ5c hq0; obtain ⟨hci0, -⟩ := impl_NumbersBefore_xZ1c hi0; obtain ⟨hci1, -⟩ := impl_NumbersBefore_xZ1c hi1; obtain ⟨hco, hfo⟩ := impl_NumbersBefore_xZ1c ho; clear hq0 hg0 hi0 hj0 hi1 hj1 ho hr hB h1 h2 h3
 exact ⟨hcz_0, hcz_1, hcz_2, hcz_3, hcz_4, hci0, hci1, ⟨h⟩⟩
set_option maxHeartbeats 200000000 in
set_option maxRecDepth 100000 in
theorem impl_NumbersBefore_c1.calls (k : Nat) (b0 b1 b2 b3 : Int) (b4 : Bool) (y x z t : Int) (xs : List Int) (v : Value) (w0 w : World) (base q0 q1 q2 q3 : Nat) (hI : impl_NumbersBefore_I w0 base q0 q1 q2 q3 b0 b1 b2 b3 b4 x z v xs w) (hl : xs.length < 17592186044416) (h : impl_First_step.f k b0 b1 b2 b3 b4 y x = some t) :
  Calls Try.prog 313 #[.int .i64 y, .pointer (some ⟨q0, 0, none⟩), .pointer (some ⟨q1, 0, none⟩), .pointer (some ⟨q2, 0, none⟩), .pointer (some ⟨q3, 0, none⟩)] w fun e w' => e = .returned (.tuple #[]) ∧ ∃ v', impl_NumbersBefore_I w0 base q0 q1 q2 q3 b0 b1 b2 b3 b4 x z v' (if t = z then xs ++ [y] else xs) w' := by
 have hu62 := Try.underlying62
 have HI := xA hI
 have HH := xA h
 have HL := xA hl
 clear hI h hl
 by_cases c : t = z
 rotate_left
 ·have cb := beq_eq_false_iff_ne.mpr c
  rw [if_neg c]
  clear c
  obtain ⟨hq0, hg0, hi0, hj0, hi1, hj1, ho, hr, hB, h1, h2, h3⟩ := HI.out; obtain ⟨hcz_0, hcz_1, hcz_2, hcz_3, hcz_4, -⟩ := impl_NumbersBefore_xZ5c hq0; obtain ⟨hci0, -⟩ := impl_NumbersBefore_xZ1c hi0; obtain ⟨hci1, -⟩ := impl_NumbersBefore_xZ1c hi1; obtain ⟨hco, hfo⟩ := impl_NumbersBefore_xZ1c ho; clear hq0 hg0 hi0 hj0 hi1 hj1 ho hr hB h1 h2 h3
  go_enter Try.func313, Try.ntmps313
  go_wp2
  go_region_held3 (fun w_ => w_.cell? ⟨q0, 0, none⟩ = some (.int .i64 b0) ∧ w_.cell? ⟨q0, 1, none⟩ = some (.int .i64 b1) ∧ w_.cell? ⟨q0, 2, none⟩ = some (.int .i64 b2) ∧ w_.cell? ⟨q0, 3, none⟩ = some (.int .i64 b3) ∧ w_.cell? ⟨q0, 4, none⟩ = some (.bool b4) ∧ w_.cell? ⟨q1, 0, none⟩ = some (.int .i64 x) ∧ w_.cell? ⟨q2, 0, none⟩ = some (.int .i64 z) ∧ Aside0 (impl_NumbersBefore_I w0 base q0 q1 q2 q3 b0 b1 b2 b3 b4 x z v xs w_)) (exact impl_NumbersBefore_I.sI (HI.out.below (by repeat (first | (with_reducible first | apply below_alloc | apply pw_below_drewN | apply below_drew1) | exact Below.refl _ _)))) (first | (go_at_call 293; (with_reducible refine (impl_First_step.calls k b0 b1 b2 b3 b4 y x t _ HH.out).mono ?_); rintro e w9 ⟨rfl, hb⟩; replace HI := xA (HI.out.below (below_step (by repeat (first | (with_reducible first | apply below_alloc | apply pw_below_drewN | apply below_drew1) | exact Below.refl _ _)) hb)); clear hb))
  clear hcz_0 hcz_1 hcz_2 hcz_3 hcz_4 hci0 hci1 hco hfo
  obtain ⟨hq0, hg0, hi0, hj0, hi1, hj1, ho, hr, hB, h1, h2, h3⟩ := HI.out; obtain ⟨hcz_0, hcz_1, hcz_2, hcz_3, hcz_4, -⟩ := impl_NumbersBefore_xZ5c hq0; obtain ⟨hci0, -⟩ := impl_NumbersBefore_xZ1c hi0; obtain ⟨hci1, -⟩ := impl_NumbersBefore_xZ1c hi1; obtain ⟨hco, hfo⟩ := impl_NumbersBefore_xZ1c ho; clear hq0 hg0 hi0 hj0 hi1 hj1 ho hr hB h1 h2 h3
  go_wp2_with (first | (go_at_call 293; (with_reducible refine (impl_First_step.calls k b0 b1 b2 b3 b4 y x t _ HH.out).mono ?_); rintro e w9 ⟨rfl, hb⟩; replace HI := xA (HI.out.below (below_step (by repeat (first | (with_reducible first | apply below_alloc | apply pw_below_drewN | apply below_drew1) | exact Below.refl _ _)) hb)); clear hb hcz_0 hcz_1 hcz_2 hcz_3 hcz_4 hci0 hci1 hco hfo; obtain ⟨hq0, hg0, hi0, hj0, hi1, hj1, ho, hr, hB, h1, h2, h3⟩ := HI.out; obtain ⟨hcz_0, hcz_1, hcz_2, hcz_3, hcz_4, -⟩ := impl_NumbersBefore_xZ5c hq0; obtain ⟨hci0, -⟩ := impl_NumbersBefore_xZ1c hi0; obtain ⟨hci1, -⟩ := impl_NumbersBefore_xZ1c hi1; obtain ⟨hco, hfo⟩ := impl_NumbersBefore_xZ1c ho; clear hq0 hg0 hi0 hj0 hi1 hj1 ho hr hB h1 h2 h3))
  (first | go_end0 | ((try simp only [Exit.inBlock, Exit.then]); refine bodyPost_ret (results_none rfl _ _ _) rfl ?_))
  exact ⟨by first | rfl | (simp; done), v, HI.out.below (by repeat (first | (with_reducible first | apply below_alloc | apply pw_below_drewN | apply below_drew1) | exact Below.refl _ _))⟩
 have cb := beq_iff_eq.mpr c
 rw [if_pos c]
 clear c
 obtain ⟨hq0, hg0, hi0, hj0, hi1, hj1, ho, hr, hB, h1, h2, h3⟩ := HI.out; obtain ⟨hcz_0, hcz_1, hcz_2, hcz_3, hcz_4, -⟩ := impl_NumbersBefore_xZ5c hq0; obtain ⟨hci0, -⟩ := impl_NumbersBefore_xZ1c hi0; obtain ⟨hci1, -⟩ := impl_NumbersBefore_xZ1c hi1; obtain ⟨hco, hfo⟩ := impl_NumbersBefore_xZ1c ho; clear hq0 hg0 hi0 hj0 hi1 hj1 ho hr hB h1 h2 h3
 go_enter Try.func313, Try.ntmps313
 go_wp2
 go_region_held3 (fun w_ => w_.cell? ⟨q0, 0, none⟩ = some (.int .i64 b0) ∧ w_.cell? ⟨q0, 1, none⟩ = some (.int .i64 b1) ∧ w_.cell? ⟨q0, 2, none⟩ = some (.int .i64 b2) ∧ w_.cell? ⟨q0, 3, none⟩ = some (.int .i64 b3) ∧ w_.cell? ⟨q0, 4, none⟩ = some (.bool b4) ∧ w_.cell? ⟨q1, 0, none⟩ = some (.int .i64 x) ∧ w_.cell? ⟨q2, 0, none⟩ = some (.int .i64 z) ∧ Aside0 (impl_NumbersBefore_I w0 base q0 q1 q2 q3 b0 b1 b2 b3 b4 x z v xs w_)) (exact impl_NumbersBefore_I.sI (HI.out.below (by repeat (first | (with_reducible first | apply below_alloc | apply pw_below_drewN | apply below_drew1) | exact Below.refl _ _)))) (first | (go_at_call 293; (with_reducible refine (impl_First_step.calls k b0 b1 b2 b3 b4 y x t _ HH.out).mono ?_); rintro e w9 ⟨rfl, hb⟩; replace HI := xA (HI.out.below (below_step (by repeat (first | (with_reducible first | apply below_alloc | apply pw_below_drewN | apply below_drew1) | exact Below.refl _ _)) hb)); clear hb))
 clear hcz_0 hcz_1 hcz_2 hcz_3 hcz_4 hci0 hci1 hco hfo
 obtain ⟨hq0, hg0, hi0, hj0, hi1, hj1, ho, hr, hB, h1, h2, h3⟩ := HI.out; obtain ⟨hcz_0, hcz_1, hcz_2, hcz_3, hcz_4, -⟩ := impl_NumbersBefore_xZ5c hq0; obtain ⟨hci0, -⟩ := impl_NumbersBefore_xZ1c hi0; obtain ⟨hci1, -⟩ := impl_NumbersBefore_xZ1c hi1; obtain ⟨hco, hfo⟩ := impl_NumbersBefore_xZ1c ho; clear hq0 hg0 hi0 hj0 hi1 hj1 ho hr hB h1 h2 h3
 go_wp2_with (first | (go_at_call 293; (with_reducible refine (impl_First_step.calls k b0 b1 b2 b3 b4 y x t _ HH.out).mono ?_); rintro e w9 ⟨rfl, hb⟩; replace HI := xA (HI.out.below (below_step (by repeat (first | (with_reducible first | apply below_alloc | apply pw_below_drewN | apply below_drew1) | exact Below.refl _ _)) hb)); clear hb hcz_0 hcz_1 hcz_2 hcz_3 hcz_4 hci0 hci1 hco hfo; obtain ⟨hq0, hg0, hi0, hj0, hi1, hj1, ho, hr, hB, h1, h2, h3⟩ := HI.out; obtain ⟨hcz_0, hcz_1, hcz_2, hcz_3, hcz_4, -⟩ := impl_NumbersBefore_xZ5c hq0; obtain ⟨hci0, -⟩ := impl_NumbersBefore_xZ1c hi0; obtain ⟨hci1, -⟩ := impl_NumbersBefore_xZ1c hi1; obtain ⟨hco, hfo⟩ := impl_NumbersBefore_xZ1c ho; clear hq0 hg0 hi0 hj0 hi1 hj1 ho hr hB h1 h2 h3) | ((with_reducible refine gate_builtin (b := .append) (xs := #[.tmp 12, .tmp 14]) rfl ?_); at_builtin; refine Kd.R_append (Kd.int .i64) (w0 := ?bw) base rfl (.tmp 12) (.tmp 14) 24 3 (.int .i64 0) 8 rfl Try.underlying24 info3 rfl (by decide) (by omega) v xs y [.int .i64 y] (fun _ => True) (fun _ => False) rfl rfl ?aP (fun _ hk => hk.elim) ?aF ?aO ?aB ?aS ?aL ?_; (case aB => exact Below.refl _ _); (case aP => exact rfl); (case aF => exact (fun _ _ => trivial)); (case aO => exact (HI.out.below (by repeat (first | (with_reducible first | apply below_alloc | apply pw_below_drewN | apply below_drew1) | exact Below.refl _ _))).row); (case aS => exact (HI.out.below (by repeat (first | (with_reducible first | apply below_alloc | apply pw_below_drewN | apply below_drew1) | exact Below.refl _ _))).base_le); (case aL => have := HL.out; omega); intro v1 w16 ho hb hg hat; have n0_ := xA ((HI.out.below (by repeat (first | (with_reducible first | apply below_alloc | apply pw_below_drewN | apply below_drew1) | exact Below.refl _ _))).put ho hb hg); obtain ⟨m1, A1, c1, rfl⟩ := impl_NumbersBefore_xSl ho; clear HI ho hb hg hat hcz_0 hcz_1 hcz_2 hcz_3 hcz_4 hci0 hci1 hco hfo; have HI := n0_; clear n0_) | (refine impl_NumbersBefore.xSv 4 15 HI.out.box ?_; intro w17 hw; replace HI := xA (HI.out.stored hw); clear hw))
 (first | go_end0 | ((try simp only [Exit.inBlock, Exit.then]); refine bodyPost_ret (results_none rfl _ _ _) rfl ?_))
 exact ⟨by first | rfl | (simp; done), _, HI.out.below (by repeat (first | (with_reducible first | apply below_alloc | apply pw_below_drewN | apply below_drew1) | exact Below.refl _ _))⟩
set_option maxHeartbeats 200000000 in
set_option maxRecDepth 100000 in
theorem impl_NumbersBefore_all.calls (b0 : Int) (b1 : Bool) (lo hi : Int) (q0 q1 q2 q3 : Nat) (Inv : Int → World → Prop) (w : World) (hE : impl_Word_ends.f b0 b1 = some (lo, hi)) (hlo : -1000000 ≤ lo) (hle : lo ≤ hi + 1) (hhi : hi ≤ 1000000) (Hb : ∀ y w1 w2, Inv y w1 → Below w1.heap.size w1 w2 → Inv y w2)
  (Hs : ∀ y w1, lo ≤ y → y ≤ hi → Inv y w1 → Calls Try.prog 313 #[.int .i64 y, .pointer (some ⟨q0, 0, none⟩), .pointer (some ⟨q1, 0, none⟩), .pointer (some ⟨q2, 0, none⟩), .pointer (some ⟨q3, 0, none⟩)] w1 fun e w2 => e = .returned (.tuple #[]) ∧ Inv (y + 1) w2) (h0 : Inv lo w) :
  Calls Try.prog 308 #[.agg #[.int .i64 b0, .bool b1], .func (.func 313) #[] #[.pointer (some ⟨q0, 0, none⟩), .pointer (some ⟨q1, 0, none⟩), .pointer (some ⟨q2, 0, none⟩), .pointer (some ⟨q3, 0, none⟩)]] w fun e w' => e = .returned (.tuple #[]) ∧ Inv (hi + 1) w' := by
 have hu46 := Try.underlying46
 have HB := xA (Below.refl w.heap.size w)
 have HE := xA hE
 have HI := xA h0
 have HS := xA Hs
 have HM := xA Hb
 have L1 := xA hlo
 have L2 := xA hle
 have L3 := xA hhi
 clear hE h0 Hs Hb hlo hle hhi
 go_enter Try.func308, Try.ntmps308
 go_wp2_with (first | (refine xg 2 rfl ?_; refine xV 2 #[.int .i64 b0, .bool b1] 46 ?_; intro gb1 hg w3 hbox hb; replace HI := xA (HM.out _ _ _ HI.out hb); have BK0 := xA hbox; clear hbox hg hb HB; have hcz_0 := (blk_cell BK0.out 0).trans rfl; have hcz_1 := (blk_cell BK0.out 1).trans rfl) | (go_at_call 261; (with_reducible refine (impl_Word_ends.calls b0 b1 lo hi _ HE.out).mono ?_); rintro e w7 ⟨rfl, hb⟩; replace HI := xA (HM.out _ _ _ (HM.out _ _ _ HI.out (by repeat (first | (with_reducible first | apply below_alloc | apply pw_below_drewN | apply below_drew1) | exact Below.refl _ _))) hb); clear hb hcz_0 hcz_1 BK0))
 go_loopg [6] ((hi + 1 - lo).toNat) (fun kq v6 w' => ∃ y : Int, v6 = .int .i64 y ∧ Aside0 (y + (kq : Int) = hi + 1 ∧ lo ≤ y) ∧ Aside0 (Inv y w'))
 case atStart => exact ⟨lo, rfl, ⟨by have := L2.out; omega⟩, ⟨HM.out _ _ _ HI.out (by repeat (first | (with_reducible first | apply below_alloc | apply pw_below_drewN | apply below_drew1) | exact Below.refl _ _))⟩⟩
 case round =>
  clear HI
  obtain ⟨y, rfl, HY, HI⟩ := hrel
  cases gk with
  | zero =>
   have c := HY.out.1
   have cb : decide (y ≤ hi) = false := decide_eq_false (by omega)
   obtain rfl : y = hi + 1 := by omega
   clear c
   go_wp2
   (first | go_end0 | ((try simp only [Exit.inBlock, Exit.then]); refine bodyPost_ret (results_none rfl _ _ _) rfl ?_))
   exact ⟨by first | rfl | (simp; done), HM.out _ _ _ HI.out (by repeat (first | (with_reducible first | apply below_alloc | apply pw_below_drewN | apply below_drew1) | exact Below.refl _ _))⟩
  | succ k1 =>
   have cc : y ≤ hi := by have := HY.out.1; omega
   have cb : decide (y ≤ hi) = true := decide_eq_true cc
   have CC := xA cc
   clear cc
   go_wp2_with (first | (go_at_call 313; (with_reducible refine (HS.out y _ HY.out.2 CC.out (HM.out _ _ _ HI.out (by repeat (first | (with_reducible first | apply below_alloc | apply pw_below_drewN | apply below_drew1) | exact Below.refl _ _)))).mono ?_); rintro e w7 ⟨rfl, hI⟩; replace HI := xA hI; clear hI))
   go_roundg k1
   case measure => omega
   case rel => exact ⟨y + 1, (by have h1 := L1.out; have h2 := HY.out.2; have h3 := L3.out; have h4 := CC.out; rw [show wrap64 (y + 1) = y + 1 by unfold wrap64; omega]), ⟨by have := HY.out; omega⟩, ⟨HM.out _ _ _ HI.out (by repeat (first | (with_reducible first | apply below_alloc | apply pw_below_drewN | apply below_drew1) | exact Below.refl _ _))⟩⟩
def impl_NumbersBefore.lp (k : Nat) (b0 b1 b2 b3 : Int) (b4 : Bool) (x z : Int) : Nat → Int → List Int → Option (List Int)
 | 0, _, xs => some xs
 | n + 1, y, xs => if xs.length < 17592186044416 then ((impl_First_step.f k b0 b1 b2 b3 b4 y x).bind fun t => impl_NumbersBefore.lp k b0 b1 b2 b3 b4 x z n (y + 1) (if t = z then xs ++ [y] else xs)) else none
theorem impl_NumbersBefore.lp_mono (k : Nat) (b0 b1 b2 b3 : Int) (b4 : Bool) (x z : Int) : ∀ (n : Nat) (y : Int) (xs : List Int), LeO (impl_NumbersBefore.lp k b0 b1 b2 b3 b4 x z n y xs) (impl_NumbersBefore.lp (k + 1) b0 b1 b2 b3 b4 x z n y xs)
 | 0, _, _ => LeO.refl _
 | n + 1, y, xs => by
  have ih := impl_NumbersBefore.lp_mono k b0 b1 b2 b3 b4 x z n
  unfold impl_NumbersBefore.lp
  exact LeO.ite (LeO.bind (impl_First_step.mono _ _ _ _ _ _ _ _) (fun _ => ih _ _)) (LeO.none _)
def impl_NumbersBefore.g (k : Nat) (b0 b1 b2 b3 : Int) (b4 : Bool) (x z : Int) : Option (List Int × Bool) := (impl_Word_ends.f b3 b4).bind fun e => if -1000000 ≤ e.1 ∧ e.1 ≤ e.2 + 1 ∧ e.2 ≤ 1000000 then (impl_NumbersBefore.lp k b0 b1 b2 b3 b4 x z (e.2 + 1 - e.1).toNat e.1 []).bind (fun r => some (r, true)) else none
theorem impl_NumbersBefore_scan.calls (k : Nat) (b0 b1 b2 b3 : Int) (b4 : Bool) (lo hi x z : Int) (r1 : List Int) (v : Value) (w0 w : World) (base q0 q1 q2 q3 : Nat) (hE : impl_Word_ends.f b3 b4 = some (lo, hi)) (hlo : -1000000 ≤ lo) (hle : lo ≤ hi + 1) (hhi : hi ≤ 1000000) (hL : impl_NumbersBefore.lp k b0 b1 b2 b3 b4 x z (hi + 1 - lo).toNat lo [] = some r1) (hI : impl_NumbersBefore_I w0 base q0 q1 q2 q3 b0 b1 b2 b3 b4 x z v [] w) :
  Calls Try.prog 308 #[.agg #[.int .i64 b3, .bool b4], .func (.func 313) #[] #[.pointer (some ⟨q0, 0, none⟩), .pointer (some ⟨q1, 0, none⟩), .pointer (some ⟨q2, 0, none⟩), .pointer (some ⟨q3, 0, none⟩)]] w fun e w' => e = .returned (.tuple #[]) ∧ ∃ v', impl_NumbersBefore_I w0 base q0 q1 q2 q3 b0 b1 b2 b3 b4 x z v' r1 w' := by
 refine (impl_NumbersBefore_all.calls b3 b4 lo hi q0 q1 q2 q3 (fun y w1 => ∃ n v xs, y + ((n : Nat) : Int) = hi + 1 ∧ impl_NumbersBefore.lp k b0 b1 b2 b3 b4 x z n y xs = some r1 ∧ impl_NumbersBefore_I w0 base q0 q1 q2 q3 b0 b1 b2 b3 b4 x z v xs w1) w hE hlo hle hhi ?_ ?_ ⟨(hi + 1 - lo).toNat, v, [], by omega, hL, hI⟩).mono ?_
 ·rintro y w1 w2 ⟨n, v, xs, h1, h2, h3⟩ hb
  exact ⟨n, v, xs, h1, h2, h3.below hb⟩
 ·rintro y w1 hy1 hy2 ⟨n, v, xs, h1, h2, h3⟩
  cases n with
  | zero => exact absurd h1 (by omega)
  | succ n =>
   rw [impl_NumbersBefore.lp] at h2
   by_cases cl : xs.length < 17592186044416
   rotate_left
   ·rw [if_neg cl] at h2
    exact absurd h2 (by simp)
   rw [if_pos cl] at h2
   obtain ⟨t, ht, h2⟩ := Option.bind_eq_some_iff.1 h2
   refine (impl_NumbersBefore_c1.calls k b0 b1 b2 b3 b4 y x z t xs v w0 w1 base q0 q1 q2 q3 h3 cl ht).mono ?_
   rintro e w2 ⟨rfl, v', hv⟩
   exact ⟨rfl, n, v', _, by omega, h2, hv⟩
 ·rintro e w2 ⟨rfl, n, v2, xs, h1, h2, h3⟩
  obtain rfl : n = 0 := by omega
  obtain rfl : xs = r1 := by simpa [impl_NumbersBefore.lp] using h2
  exact ⟨rfl, v2, h3⟩
def impl_NumbersBefore.f (k : Nat) (b0 b1 b2 b3 : Int) (b4 : Bool) (z x : Int) : Option (List Int × Bool) := (impl_First_isScanned.f b0 b1 b2 b3 b4 x).bind fun t1 => (if t1 = true then ((impl_Word_has.f b3 b4 z).bind fun t2 => (if t2 = true then (impl_NumbersBefore.g k b0 b1 b2 b3 b4 x z) else (some ([], false)))) else (some ([], false)))
theorem impl_NumbersBefore.mono : ∀ b0 b1 b2 b3 b4 z x k, LeO (impl_NumbersBefore.f k b0 b1 b2 b3 b4 z x) (impl_NumbersBefore.f (k + 1) b0 b1 b2 b3 b4 z x) := by
 intro b0 b1 b2 b3 b4 z x k
 unfold impl_NumbersBefore.f impl_NumbersBefore.g
 repeat' first
 | (with_reducible exact LeO.refl _)
 | (with_reducible exact LeO.none _)
 | (with_reducible refine LeO.ite ?_ ?_)
 | (with_reducible exact LeO.bind (impl_NumbersBefore.lp_mono k b0 b1 b2 b3 b4 x z _ _ _) (fun _ => LeO.refl _))
 | (with_reducible refine LeO.bind (LeO.refl _) (fun _ => ?_))
set_option maxHeartbeats 200000000 in
set_option maxRecDepth 100000 in
theorem impl_NumbersBefore.calls (k : Nat) (b0 b1 b2 b3 : Int) (b4 : Bool) (z x : Int) (r1 : List Int) (r2 : Bool) (w : World) (h : impl_NumbersBefore.f k b0 b1 b2 b3 b4 z x = some (r1, r2)) :
  Calls Try.prog 121 #[.agg #[.int .i64 b0, .int .i64 b1, .int .i64 b2, .int .i64 b3, .bool b4], .int .i64 z, .int .i64 x] w fun e w' => ∃ v0_ : Value, e = .returned (.tuple #[v0_, .bool r2]) ∧ Kd.R (Kd.int .i64) 3 w' w.heap.size (fun _ => True) v0_ r1 ∧ Below w.heap.size w w' := by
 have hu62 := Try.underlying62
 have HB := xA (Below.refl w.heap.size w)
 unfold impl_NumbersBefore.f at h
 obtain ⟨t1, A10, H⟩ := Option.bind_eq_some_iff.mp h
 clear h
 have A1 := xA A10
 clear A10
 by_cases c1 : t1 = true
 rotate_left
 ·replace c1 := Bool.eq_false_iff.mpr c1
  subst c1
  rw [if_neg (show ¬ (false = true) by decide)] at H
  simp only [Option.some.injEq, Prod.mk.injEq] at H
  obtain ⟨rfl, rfl⟩ := H
  go_enter Try.func121, Try.ntmps121
  go_wp2_with (first | (refine xg 3 rfl ?_; refine xV 3 #[.int .i64 b0, .int .i64 b1, .int .i64 b2, .int .i64 b3, .bool b4] 62 ?_; intro q0 hg w20 hbox hb; have k_ := xA hbox; clear hbox; have n_ := xA (below_step (xB HB.out) hb); clear HB  hb; have HB := n_; clear n_; have BK0 := k_; clear k_ hg; obtain ⟨hcz_0, hcz_1, hcz_2, hcz_3, hcz_4, -⟩ := impl_NumbersBefore_xZ5c BK0.out; skip) | (refine xg 4 rfl ?_; refine xV 4 #[.int .i64 z] 3 ?_; intro q2 hg w21 hbox hb; clear hcz_0 hcz_1 hcz_2 hcz_3 hcz_4; have k_ := xA hbox; clear hbox; have n_ := xA (below_step (xB HB.out) hb); have m0_ := xA (blk_below (by ((with_reducible repeat (first | refine blk_drewN ?_ _ | refine blk_drew ?_ | refine blk_alloc ?_ _)); exact BK0.out)) hb); clear HB BK0 hb; have HB := n_; clear n_; have BK0 := m0_; clear m0_; have BK2 := k_; clear k_ hg; obtain ⟨hcz_0, hcz_1, hcz_2, hcz_3, hcz_4, -⟩ := impl_NumbersBefore_xZ5c BK0.out; obtain ⟨hci2, -⟩ := impl_NumbersBefore_xZ1c BK2.out; skip) | (refine xg 5 rfl ?_; refine xV 5 #[.int .i64 x] 3 ?_; intro q1 hg w22 hbox hb; clear hcz_0 hcz_1 hcz_2 hcz_3 hcz_4 hci2; have k_ := xA hbox; clear hbox; have n_ := xA (below_step (xB HB.out) hb); have m0_ := xA (blk_below (by ((with_reducible repeat (first | refine blk_drewN ?_ _ | refine blk_drew ?_ | refine blk_alloc ?_ _)); exact BK0.out)) hb); have m1_ := xA (blk_below (by ((with_reducible repeat (first | refine blk_drewN ?_ _ | refine blk_drew ?_ | refine blk_alloc ?_ _)); exact BK2.out)) hb); clear HB BK0 BK2 hb; have HB := n_; clear n_; have BK0 := m0_; clear m0_; have BK2 := m1_; clear m1_; have BK1 := k_; clear k_ hg; obtain ⟨hcz_0, hcz_1, hcz_2, hcz_3, hcz_4, -⟩ := impl_NumbersBefore_xZ5c BK0.out; obtain ⟨hci2, -⟩ := impl_NumbersBefore_xZ1c BK2.out; obtain ⟨hci1, -⟩ := impl_NumbersBefore_xZ1c BK1.out; skip) | (go_at_call 304; (with_reducible refine (impl_First_isScanned.calls b0 b1 b2 b3 b4 x false _ A1.out).mono ?_); rintro e w30 ⟨rfl, hb⟩; clear hcz_0 hcz_1 hcz_2 hcz_3 hcz_4 hci2 hci1; have n_ := xA (below_step (xB HB.out) hb); have m0_ := xA (blk_below (by ((with_reducible repeat (first | refine blk_drewN ?_ _ | refine blk_drew ?_ | refine blk_alloc ?_ _)); exact BK0.out)) hb); have m1_ := xA (blk_below (by ((with_reducible repeat (first | refine blk_drewN ?_ _ | refine blk_drew ?_ | refine blk_alloc ?_ _)); exact BK2.out)) hb); have m2_ := xA (blk_below (by ((with_reducible repeat (first | refine blk_drewN ?_ _ | refine blk_drew ?_ | refine blk_alloc ?_ _)); exact BK1.out)) hb); clear HB BK0 BK2 BK1 hb; have HB := n_; clear n_; have BK0 := m0_; clear m0_; have BK2 := m1_; clear m1_; have BK1 := m2_; clear m2_; obtain ⟨hcz_0, hcz_1, hcz_2, hcz_3, hcz_4, -⟩ := impl_NumbersBefore_xZ5c BK0.out; obtain ⟨hci2, -⟩ := impl_NumbersBefore_xZ1c BK2.out; obtain ⟨hci1, -⟩ := impl_NumbersBefore_xZ1c BK1.out; skip))
  go_ret2
  exact ⟨_, by first | rfl | (simp; done) | (simp [*]; done), Kd.R_nil _ _ _ _ _, (xB HB.out)⟩
 subst c1
 rw [if_pos rfl] at H
 obtain ⟨t2, A20, H⟩ := Option.bind_eq_some_iff.mp H
 have A2 := xA A20
 clear A20
 by_cases c2 : t2 = true
 rotate_left
 ·replace c2 := Bool.eq_false_iff.mpr c2
  subst c2
  rw [if_neg (show ¬ (false = true) by decide)] at H
  simp only [Option.some.injEq, Prod.mk.injEq] at H
  obtain ⟨rfl, rfl⟩ := H
  go_enter Try.func121, Try.ntmps121
  go_wp2_with (first | (refine xg 3 rfl ?_; refine xV 3 #[.int .i64 b0, .int .i64 b1, .int .i64 b2, .int .i64 b3, .bool b4] 62 ?_; intro q0 hg w20 hbox hb; have k_ := xA hbox; clear hbox; have n_ := xA (below_step (xB HB.out) hb); clear HB  hb; have HB := n_; clear n_; have BK0 := k_; clear k_ hg; obtain ⟨hcz_0, hcz_1, hcz_2, hcz_3, hcz_4, -⟩ := impl_NumbersBefore_xZ5c BK0.out; skip) | (refine xg 4 rfl ?_; refine xV 4 #[.int .i64 z] 3 ?_; intro q2 hg w21 hbox hb; clear hcz_0 hcz_1 hcz_2 hcz_3 hcz_4; have k_ := xA hbox; clear hbox; have n_ := xA (below_step (xB HB.out) hb); have m0_ := xA (blk_below (by ((with_reducible repeat (first | refine blk_drewN ?_ _ | refine blk_drew ?_ | refine blk_alloc ?_ _)); exact BK0.out)) hb); clear HB BK0 hb; have HB := n_; clear n_; have BK0 := m0_; clear m0_; have BK2 := k_; clear k_ hg; obtain ⟨hcz_0, hcz_1, hcz_2, hcz_3, hcz_4, -⟩ := impl_NumbersBefore_xZ5c BK0.out; obtain ⟨hci2, -⟩ := impl_NumbersBefore_xZ1c BK2.out; skip) | (refine xg 5 rfl ?_; refine xV 5 #[.int .i64 x] 3 ?_; intro q1 hg w22 hbox hb; clear hcz_0 hcz_1 hcz_2 hcz_3 hcz_4 hci2; have k_ := xA hbox; clear hbox; have n_ := xA (below_step (xB HB.out) hb); have m0_ := xA (blk_below (by ((with_reducible repeat (first | refine blk_drewN ?_ _ | refine blk_drew ?_ | refine blk_alloc ?_ _)); exact BK0.out)) hb); have m1_ := xA (blk_below (by ((with_reducible repeat (first | refine blk_drewN ?_ _ | refine blk_drew ?_ | refine blk_alloc ?_ _)); exact BK2.out)) hb); clear HB BK0 BK2 hb; have HB := n_; clear n_; have BK0 := m0_; clear m0_; have BK2 := m1_; clear m1_; have BK1 := k_; clear k_ hg; obtain ⟨hcz_0, hcz_1, hcz_2, hcz_3, hcz_4, -⟩ := impl_NumbersBefore_xZ5c BK0.out; obtain ⟨hci2, -⟩ := impl_NumbersBefore_xZ1c BK2.out; obtain ⟨hci1, -⟩ := impl_NumbersBefore_xZ1c BK1.out; skip) | (go_at_call 304; (with_reducible refine (impl_First_isScanned.calls b0 b1 b2 b3 b4 x true _ A1.out).mono ?_); rintro e w30 ⟨rfl, hb⟩; clear hcz_0 hcz_1 hcz_2 hcz_3 hcz_4 hci2 hci1; have n_ := xA (below_step (xB HB.out) hb); have m0_ := xA (blk_below (by ((with_reducible repeat (first | refine blk_drewN ?_ _ | refine blk_drew ?_ | refine blk_alloc ?_ _)); exact BK0.out)) hb); have m1_ := xA (blk_below (by ((with_reducible repeat (first | refine blk_drewN ?_ _ | refine blk_drew ?_ | refine blk_alloc ?_ _)); exact BK2.out)) hb); have m2_ := xA (blk_below (by ((with_reducible repeat (first | refine blk_drewN ?_ _ | refine blk_drew ?_ | refine blk_alloc ?_ _)); exact BK1.out)) hb); clear HB BK0 BK2 BK1 hb; have HB := n_; clear n_; have BK0 := m0_; clear m0_; have BK2 := m1_; clear m1_; have BK1 := m2_; clear m2_; obtain ⟨hcz_0, hcz_1, hcz_2, hcz_3, hcz_4, -⟩ := impl_NumbersBefore_xZ5c BK0.out; obtain ⟨hci2, -⟩ := impl_NumbersBefore_xZ1c BK2.out; obtain ⟨hci1, -⟩ := impl_NumbersBefore_xZ1c BK1.out; skip) | (go_at_call 291; (with_reducible refine (impl_Word_has.calls b3 b4 z false _ A2.out).mono ?_); rintro e w31 ⟨rfl, hb⟩; clear hcz_0 hcz_1 hcz_2 hcz_3 hcz_4 hci2 hci1; have n_ := xA (below_step (xB HB.out) hb); have m0_ := xA (blk_below (by ((with_reducible repeat (first | refine blk_drewN ?_ _ | refine blk_drew ?_ | refine blk_alloc ?_ _)); exact BK0.out)) hb); have m1_ := xA (blk_below (by ((with_reducible repeat (first | refine blk_drewN ?_ _ | refine blk_drew ?_ | refine blk_alloc ?_ _)); exact BK2.out)) hb); have m2_ := xA (blk_below (by ((with_reducible repeat (first | refine blk_drewN ?_ _ | refine blk_drew ?_ | refine blk_alloc ?_ _)); exact BK1.out)) hb); clear HB BK0 BK2 BK1 hb; have HB := n_; clear n_; have BK0 := m0_; clear m0_; have BK2 := m1_; clear m1_; have BK1 := m2_; clear m2_; obtain ⟨hcz_0, hcz_1, hcz_2, hcz_3, hcz_4, -⟩ := impl_NumbersBefore_xZ5c BK0.out; obtain ⟨hci2, -⟩ := impl_NumbersBefore_xZ1c BK2.out; obtain ⟨hci1, -⟩ := impl_NumbersBefore_xZ1c BK1.out; skip))
  go_ret2
  exact ⟨_, by first | rfl | (simp; done) | (simp [*]; done), Kd.R_nil _ _ _ _ _, (xB HB.out)⟩
 subst c2
 rw [if_pos rfl] at H
 unfold impl_NumbersBefore.g at H
 obtain ⟨⟨lo, hi⟩, HE0, H⟩ := Option.bind_eq_some_iff.mp H
 have HE := xA HE0
 clear HE0
 by_cases cL : -1000000 ≤ lo ∧ lo ≤ hi + 1 ∧ hi ≤ 1000000
 rotate_left
 ·simp only at H
  rw [if_neg cL] at H
  exact absurd H (by simp)
 simp only at H
 rw [if_pos cL] at H
 have L1 := xA cL.1
 have L2 := xA cL.2.1
 have L3 := xA cL.2.2
 clear cL
 obtain ⟨rr, LP0, H⟩ := Option.bind_eq_some_iff.mp H
 simp only [Option.some.injEq, Prod.mk.injEq] at H
 obtain ⟨rfl, rfl⟩ := H
 have LP := xA LP0
 clear LP0
 go_enter Try.func121, Try.ntmps121
 go_wp2_with (first | (refine xg 3 rfl ?_; refine xV 3 #[.int .i64 b0, .int .i64 b1, .int .i64 b2, .int .i64 b3, .bool b4] 62 ?_; intro q0 hg w20 hbox hb; have k_ := xA hbox; clear hbox; have n_ := xA (below_step (xB HB.out) hb); clear HB  hb; have HB := n_; clear n_; have BK0 := k_; clear k_ hg; obtain ⟨hcz_0, hcz_1, hcz_2, hcz_3, hcz_4, -⟩ := impl_NumbersBefore_xZ5c BK0.out; skip) | (refine xg 4 rfl ?_; refine xV 4 #[.int .i64 z] 3 ?_; intro q2 hg w21 hbox hb; clear hcz_0 hcz_1 hcz_2 hcz_3 hcz_4; have k_ := xA hbox; clear hbox; have n_ := xA (below_step (xB HB.out) hb); have m0_ := xA (blk_below (by ((with_reducible repeat (first | refine blk_drewN ?_ _ | refine blk_drew ?_ | refine blk_alloc ?_ _)); exact BK0.out)) hb); clear HB BK0 hb; have HB := n_; clear n_; have BK0 := m0_; clear m0_; have BK2 := k_; clear k_ hg; obtain ⟨hcz_0, hcz_1, hcz_2, hcz_3, hcz_4, -⟩ := impl_NumbersBefore_xZ5c BK0.out; obtain ⟨hci2, -⟩ := impl_NumbersBefore_xZ1c BK2.out; skip) | (refine xg 5 rfl ?_; refine xV 5 #[.int .i64 x] 3 ?_; intro q1 hg w22 hbox hb; clear hcz_0 hcz_1 hcz_2 hcz_3 hcz_4 hci2; have k_ := xA hbox; clear hbox; have n_ := xA (below_step (xB HB.out) hb); have m0_ := xA (blk_below (by ((with_reducible repeat (first | refine blk_drewN ?_ _ | refine blk_drew ?_ | refine blk_alloc ?_ _)); exact BK0.out)) hb); have m1_ := xA (blk_below (by ((with_reducible repeat (first | refine blk_drewN ?_ _ | refine blk_drew ?_ | refine blk_alloc ?_ _)); exact BK2.out)) hb); clear HB BK0 BK2 hb; have HB := n_; clear n_; have BK0 := m0_; clear m0_; have BK2 := m1_; clear m1_; have BK1 := k_; clear k_ hg; obtain ⟨hcz_0, hcz_1, hcz_2, hcz_3, hcz_4, -⟩ := impl_NumbersBefore_xZ5c BK0.out; obtain ⟨hci2, -⟩ := impl_NumbersBefore_xZ1c BK2.out; obtain ⟨hci1, -⟩ := impl_NumbersBefore_xZ1c BK1.out; skip) | (go_at_call 304; (with_reducible refine (impl_First_isScanned.calls b0 b1 b2 b3 b4 x true _ A1.out).mono ?_); rintro e w30 ⟨rfl, hb⟩; clear hcz_0 hcz_1 hcz_2 hcz_3 hcz_4 hci2 hci1; have n_ := xA (below_step (xB HB.out) hb); have m0_ := xA (blk_below (by ((with_reducible repeat (first | refine blk_drewN ?_ _ | refine blk_drew ?_ | refine blk_alloc ?_ _)); exact BK0.out)) hb); have m1_ := xA (blk_below (by ((with_reducible repeat (first | refine blk_drewN ?_ _ | refine blk_drew ?_ | refine blk_alloc ?_ _)); exact BK2.out)) hb); have m2_ := xA (blk_below (by ((with_reducible repeat (first | refine blk_drewN ?_ _ | refine blk_drew ?_ | refine blk_alloc ?_ _)); exact BK1.out)) hb); clear HB BK0 BK2 BK1 hb; have HB := n_; clear n_; have BK0 := m0_; clear m0_; have BK2 := m1_; clear m1_; have BK1 := m2_; clear m2_; obtain ⟨hcz_0, hcz_1, hcz_2, hcz_3, hcz_4, -⟩ := impl_NumbersBefore_xZ5c BK0.out; obtain ⟨hci2, -⟩ := impl_NumbersBefore_xZ1c BK2.out; obtain ⟨hci1, -⟩ := impl_NumbersBefore_xZ1c BK1.out; skip) | (go_at_call 291; (with_reducible refine (impl_Word_has.calls b3 b4 z true _ A2.out).mono ?_); rintro e w31 ⟨rfl, hb⟩; clear hcz_0 hcz_1 hcz_2 hcz_3 hcz_4 hci2 hci1; have n_ := xA (below_step (xB HB.out) hb); have m0_ := xA (blk_below (by ((with_reducible repeat (first | refine blk_drewN ?_ _ | refine blk_drew ?_ | refine blk_alloc ?_ _)); exact BK0.out)) hb); have m1_ := xA (blk_below (by ((with_reducible repeat (first | refine blk_drewN ?_ _ | refine blk_drew ?_ | refine blk_alloc ?_ _)); exact BK2.out)) hb); have m2_ := xA (blk_below (by ((with_reducible repeat (first | refine blk_drewN ?_ _ | refine blk_drew ?_ | refine blk_alloc ?_ _)); exact BK1.out)) hb); clear HB BK0 BK2 BK1 hb; have HB := n_; clear n_; have BK0 := m0_; clear m0_; have BK2 := m1_; clear m1_; have BK1 := m2_; clear m2_; obtain ⟨hcz_0, hcz_1, hcz_2, hcz_3, hcz_4, -⟩ := impl_NumbersBefore_xZ5c BK0.out; obtain ⟨hci2, -⟩ := impl_NumbersBefore_xZ1c BK2.out; obtain ⟨hci1, -⟩ := impl_NumbersBefore_xZ1c BK1.out; skip) | ((with_reducible refine gate_dst (N := 20) rfl ?_); refine Kd.R_lit (Kd.int .i64) (w0 := w31) w31.heap.size 3 ?hg (N := 20) ?hd (xs := ([] : List Int)) (inner := []) (ok := fun _ => True) (okp := fun _ => True) ?hr ?hp (fun _ hk => hk) trivial ?hb2 ?hs2 (by simp) ?_; (case hd => rfl); (case hg => rfl); (case hr => first | (go_simp; done) | (go_simp; rfl)); (case hp => exact (Reps.none _ _)); (case hb2 => exact (by repeat (first | (with_reducible first | apply below_alloc | apply pw_below_drewN | apply below_drew1) | exact Below.refl _ _))); (case hs2 => exact below_size (by repeat (first | (with_reducible first | apply below_alloc | apply pw_below_drewN | apply below_drew1) | exact Below.refl _ _))); intro v1 w40 ho hb _ _; obtain ⟨m1, A1, c1, rfl⟩ := impl_NumbersBefore_xSl ho; have HO := xA ho; have HS := xA hb.size; clear ho; have LB := xA (below_size HB.out); have LQ := xA (show q0 < w31.heap.size ∧ q2 < w31.heap.size ∧ q1 < w31.heap.size from ⟨blk_lt BK0.out, blk_lt BK2.out, blk_lt BK1.out⟩); clear hcz_0 hcz_1 hcz_2 hcz_3 hcz_4 hci2 hci1; have n_ := xA (below_step (xB HB.out) hb); have m0_ := xA (blk_below (by ((with_reducible repeat (first | refine blk_drewN ?_ _ | refine blk_drew ?_ | refine blk_alloc ?_ _)); exact BK0.out)) hb); have m1_ := xA (blk_below (by ((with_reducible repeat (first | refine blk_drewN ?_ _ | refine blk_drew ?_ | refine blk_alloc ?_ _)); exact BK2.out)) hb); have m2_ := xA (blk_below (by ((with_reducible repeat (first | refine blk_drewN ?_ _ | refine blk_drew ?_ | refine blk_alloc ?_ _)); exact BK1.out)) hb); clear HB BK0 BK2 BK1 hb; have HB := n_; clear n_; have BK0 := m0_; clear m0_; have BK2 := m1_; clear m1_; have BK1 := m2_; clear m2_; obtain ⟨hcz_0, hcz_1, hcz_2, hcz_3, hcz_4, -⟩ := impl_NumbersBefore_xZ5c BK0.out; obtain ⟨hci2, -⟩ := impl_NumbersBefore_xZ1c BK2.out; obtain ⟨hci1, -⟩ := impl_NumbersBefore_xZ1c BK1.out; skip) | (refine xg 8 rfl ?_; refine xV 8 #[.slice none 0 0] 24 ?_; intro q3 hg w41 hbox hb; have k_ := xA hbox; clear hbox; have g_ := xA (show w.heap.size ≤ q3 by rw [hg]; exact below_size (xB HB.out)); have o_ := xA (Kd.R_below HO.out (below_step (by repeat (first | (with_reducible first | apply below_alloc | apply pw_below_drewN | apply below_drew1) | exact Below.refl _ _)) hb)); have s_ := xA (Nat.le_trans HS.out hb.size); clear HO HS; have HO := o_; have HS := s_; clear o_ s_; have n_ := xA (below_step (xB HB.out) hb); have m0_ := xA (blk_below (by ((with_reducible repeat (first | refine blk_drewN ?_ _ | refine blk_drew ?_ | refine blk_alloc ?_ _)); exact BK0.out)) hb); have m1_ := xA (blk_below (by ((with_reducible repeat (first | refine blk_drewN ?_ _ | refine blk_drew ?_ | refine blk_alloc ?_ _)); exact BK2.out)) hb); have m2_ := xA (blk_below (by ((with_reducible repeat (first | refine blk_drewN ?_ _ | refine blk_drew ?_ | refine blk_alloc ?_ _)); exact BK1.out)) hb); clear HB BK0 BK2 BK1 hb; have HB := n_; clear n_; have BK0 := m0_; clear m0_; have BK2 := m1_; clear m1_; have BK1 := m2_; clear m2_; have BK9 := k_; have HG := g_; clear k_ g_ hg; have HJ := xA (show impl_NumbersBefore_J w w31.heap.size q0 q1 q2 q3 b0 b1 b2 b3 b4 x z (.slice none 0 0) (.slice A1 m1 c1) [] w41 from ⟨⟨BK0.out, LQ.out.1, BK1.out, LQ.out.2.2, BK2.out, LQ.out.2.1⟩, BK9.out, HO.out, ⟨HB.out, LB.out, HS.out, HG.out⟩⟩); clear HB HO HS HG LB LQ BK9 BK0 BK2 BK1 hcz_0 hcz_1 hcz_2 hcz_3 hcz_4 hci2 hci1; skip) | (refine impl_NumbersBefore.xSv 8 20 HJ.out.box ?_; intro w42 hw; have HI := xA (HJ.out.stored hw); clear hw HJ; obtain ⟨hq0, -, hi0, -, hi1, -, ho, -⟩ := HI.out; obtain ⟨hcz_0, hcz_1, hcz_2, hcz_3, hcz_4, -⟩ := impl_NumbersBefore_xZ5c hq0; obtain ⟨hco, hfo⟩ := impl_NumbersBefore_xZ1c ho; clear hq0 ho hi0 hi1) | (go_at_call 308; (with_reducible refine (impl_NumbersBefore_scan.calls k b0 b1 b2 b3 b4 lo hi x z _ (.slice A1 m1 c1) w _ w31.heap.size q0 q1 q2 q3 HE.out L1.out L2.out L3.out LP.out (HI.out.below (by repeat (first | (with_reducible first | apply below_alloc | apply pw_below_drewN | apply below_drew1) | exact Below.refl _ _)))).mono ?_); rintro e w43 ⟨rfl, v2, hI⟩; replace HI := xA hI; clear hI hcz_0 hcz_1 hcz_2 hcz_3 hcz_4 hco hfo; obtain ⟨hq0, -, hi0, -, hi1, -, ho, -⟩ := HI.out; obtain ⟨hcz_0, hcz_1, hcz_2, hcz_3, hcz_4, -⟩ := impl_NumbersBefore_xZ5c hq0; obtain ⟨hco, hfo⟩ := impl_NumbersBefore_xZ1c ho; clear hq0 ho hi0 hi1))
 go_ret2
 exact ⟨_, by first | rfl | (simp; done) | (simp [*]; done), impl_NumbersBefore_I.fin HI.out (by repeat (first | (with_reducible first | apply below_alloc | apply pw_below_drewN | apply below_drew1) | exact Below.refl _ _))⟩

/-! ### spec_NumbersBefore: function 122 -/
def spec_NumbersBefore.f (k : Nat) (a0_0 : Int) (a0_1 : Int) (a0_2 : Int) (a0_3 : Int) (a0_4 : Bool) (a1 : Int) (a2 : Int) : Option (List Int × Bool) := (spec_foScan.f a0_0 a0_1 a0_2 a0_3 a0_4 a2).bind fun t545 => (if t545 = true then ((spec_wdIn.f a0_3 a0_4 a1).bind fun t546 => (if t546 = true then ((spec_foBefore.f k a0_0 a0_1 a0_2 a0_3 a0_4 a2 false a1).bind fun t547 => (some (t547, true))) else (some (([] : List Int), false)))) else (some (([] : List Int), false)))
theorem spec_NumbersBefore.mono : ∀ a0 a1 a2 a3 a4 a5 a6 k, LeO (spec_NumbersBefore.f k a0 a1 a2 a3 a4 a5 a6) (spec_NumbersBefore.f (k + 1) a0 a1 a2 a3 a4 a5 a6) := by
 intro a0 a1 a2 a3 a4 a5 a6 k
 have m0 := @spec_foBefore.mono
 unfold spec_NumbersBefore.f
 exact xM
set_option maxHeartbeats 200000000 in
set_option maxRecDepth 100000 in
theorem spec_NumbersBefore.calls (k : Nat) (a0_0 : Int) (a0_1 : Int) (a0_2 : Int) (a0_3 : Int) (a0_4 : Bool) (a1 : Int) (a2 : Int) (r1 : List Int) (r2 : Bool) (w : World) (h : spec_NumbersBefore.f k a0_0 a0_1 a0_2 a0_3 a0_4 a1 a2 = some (r1, r2)) :
  Calls Try.prog 122 #[.agg #[.int .i64 a0_0, .int .i64 a0_1, .int .i64 a0_2, .int .i64 a0_3, .bool a0_4], .int .i64 a1, .int .i64 a2] w fun e w' => ∃ v0_ : Value, e = .returned (.tuple #[v0_, .bool r2]) ∧ Kd.R (Kd.int .i64) 3 w' w.heap.size (fun _ => True) v0_ r1 ∧ Below w.heap.size w w' := by
 have hu62 := Try.underlying62
 have hu46 := Try.underlying46
 have hu173 := Try.underlying173
 have HB := xA (Below.refl w.heap.size w)
 have H : ((spec_foScan.f a0_0 a0_1 a0_2 a0_3 a0_4 a2).bind fun t545 => (if t545 = true then ((spec_wdIn.f a0_3 a0_4 a1).bind fun t546 => (if t546 = true then ((spec_foBefore.f k a0_0 a0_1 a0_2 a0_3 a0_4 a2 false a1).bind fun t547 => (some (t547, true))) else (some (([] : List Int), false)))) else (some (([] : List Int), false)))) = some (r1, r2) := h
 clear h
 obtain ⟨t545, A4, H⟩ := xO H
 (try dsimp only at H)
 by_cases c5 : t545 = true
 rotate_left
 ·replace c5 := Bool.eq_false_iff.mpr c5
  subst c5
  rw [if_neg (show ¬ (false = true) by decide)] at H
  simp only [Option.some.injEq, Prod.mk.injEq] at H
  obtain ⟨rfl, rfl⟩ := H
  go_enter Try.func122, Try.ntmps122
  go_wp2_with (first | (refine xg 3 rfl ?_; refine xV 3 #[.int .i64 a0_0, .int .i64 a0_1, .int .i64 a0_2, .int .i64 a0_3, .bool a0_4] 62 ?_; intro gb544 hg w21 hbox hb; have BK544 := xA (hbox); have GW544 := xgw hg (below_size (xB HB.out)); have GE544 := GW544; replace HB := xA (below_step (xB HB.out) hb); clear hb hbox hg; replace hz544 := blk_cell BK544.out; replace hy544 := blk_frozen BK544.out) | (refine xG (some 10) Try.func306 #[.agg #[.int .i64 a0_0, .int .i64 a0_1, .int .i64 a0_2, .int .i64 a0_3, .bool a0_4], .int .i64 a2] ?_; (with_reducible refine (spec_foScan.calls a0_0 a0_1 a0_2 a0_3 a0_4 a2 false _ A4.out).mono ?_); rintro e w23 ⟨rfl, hb⟩; refine ⟨_, rfl, ?_⟩; replace BK544 := xkb BK544 hb; replace HB := xA (below_step (xB1 GE544.out HB.out) hb); (try clear hb)))
  go_ret2
  exact ⟨_, xr, by first | exact Kd.R_nil _ _ _ _ _ | exact Kd.N_nil _ _ _ _ _ | exact Kd.V_nil _ _ _ _ _ | exact Kd.Q_nil _ _ _ _ _ | exact Kd.S_nil _ _ _ _ _, xB1 GE544.out HB.out⟩

 subst c5
 rw [if_pos rfl] at H
 obtain ⟨t546, A6, H⟩ := xO H
 (try dsimp only at H)
 by_cases c7 : t546 = true
 rotate_left
 ·replace c7 := Bool.eq_false_iff.mpr c7
  subst c7
  rw [if_neg (show ¬ (false = true) by decide)] at H
  simp only [Option.some.injEq, Prod.mk.injEq] at H
  obtain ⟨rfl, rfl⟩ := H
  go_enter Try.func122, Try.ntmps122
  go_wp2_with (first | (refine xg 3 rfl ?_; refine xV 3 #[.int .i64 a0_0, .int .i64 a0_1, .int .i64 a0_2, .int .i64 a0_3, .bool a0_4] 62 ?_; intro gb544 hg w16 hbox hb; have BK544 := xA (hbox); have GW544 := xgw hg (below_size (xB HB.out)); have GE544 := GW544; replace HB := xA (below_step (xB HB.out) hb); clear hb hbox hg; replace hz544 := blk_cell BK544.out; replace hy544 := blk_frozen BK544.out) | (refine xG (some 10) Try.func306 #[.agg #[.int .i64 a0_0, .int .i64 a0_1, .int .i64 a0_2, .int .i64 a0_3, .bool a0_4], .int .i64 a2] ?_; (with_reducible refine (spec_foScan.calls a0_0 a0_1 a0_2 a0_3 a0_4 a2 true _ A4.out).mono ?_); rintro e w18 ⟨rfl, hb⟩; refine ⟨_, rfl, ?_⟩; replace BK544 := xkb BK544 hb; replace HB := xA (below_step (xB1 GE544.out HB.out) hb); (try clear hb); replace hz544 := blk_cell BK544.out; replace hy544 := blk_frozen BK544.out) | (go_at_call 314; (with_reducible refine (spec_wdIn.calls a0_3 a0_4 a1 false _ A6.out).mono ?_); rintro e w20 ⟨rfl, hb⟩; replace BK544 := xkb BK544 hb; replace HB := xA (below_step (xB1 GE544.out HB.out) hb); (try clear hb)))
  go_ret2
  exact ⟨_, xr, by first | exact Kd.R_nil _ _ _ _ _ | exact Kd.N_nil _ _ _ _ _ | exact Kd.V_nil _ _ _ _ _ | exact Kd.Q_nil _ _ _ _ _ | exact Kd.S_nil _ _ _ _ _, xB1 GE544.out HB.out⟩
 subst c7
 rw [if_pos rfl] at H
 obtain ⟨t547, A8, H⟩ := xO H
 (try dsimp only at H)
 simp only [Option.some.injEq, Prod.mk.injEq] at H
 obtain ⟨rfl, rfl⟩ := H
 go_enter Try.func122, Try.ntmps122
 go_wp2_with (first | (refine xq rfl ?_; first | (refine xG (some 10) Try.func306 #[.agg #[.int .i64 a0_0, .int .i64 a0_1, .int .i64 a0_2, .int .i64 a0_3, .bool a0_4], .int .i64 a2] ?_; (with_reducible refine (spec_foScan.calls a0_0 a0_1 a0_2 a0_3 a0_4 a2 true _ A4.out).mono ?_); rintro e w11 ⟨rfl, hb⟩; refine ⟨_, rfl, ?_⟩; replace BK544 := xkb BK544 hb; replace HB := xA (below_step (xB1 GE544.out HB.out) hb); (try clear hb); replace hz544 := blk_cell BK544.out; replace hy544 := blk_frozen BK544.out) | (refine xG (some 23) Try.func310 #[.agg #[.int .i64 a0_0, .int .i64 a0_1, .int .i64 a0_2, .int .i64 a0_3, .bool a0_4], .int .i64 a2, .agg #[.bool false, .int .i64 a1]] ?_; (with_reducible refine (spec_foBefore.calls k a0_0 a0_1 a0_2 a0_3 a0_4 a2 false a1 t547 _ A8.out).mono ?_); rintro e w15 ⟨v548, rfl, ho0, hb⟩; refine ⟨_, rfl, ?_⟩; have HO549 := xA (Kd.R_lower ho0 (below_size (xB1 GE544.out HB.out))); replace BK544 := xkb BK544 hb; replace HB := xA (below_step (xB1 GE544.out HB.out) hb); (try clear hb); (try clear ho0))) | (refine xg 3 rfl ?_; refine xV 3 #[.int .i64 a0_0, .int .i64 a0_1, .int .i64 a0_2, .int .i64 a0_3, .bool a0_4] 62 ?_; intro gb544 hg w9 hbox hb; have BK544 := xA (hbox); have GW544 := xgw hg (below_size (xB HB.out)); have GE544 := GW544; replace HB := xA (below_step (xB HB.out) hb); clear hb hbox hg; replace hz544 := blk_cell BK544.out; replace hy544 := blk_frozen BK544.out) | (go_at_call 314; (with_reducible refine (spec_wdIn.calls a0_3 a0_4 a1 true _ A6.out).mono ?_); rintro e w13 ⟨rfl, hb⟩; replace BK544 := xkb BK544 hb; replace HB := xA (below_step (xB1 GE544.out HB.out) hb); (try clear hb); replace hz544 := blk_cell BK544.out; replace hy544 := blk_frozen BK544.out))
 go_ret2
 exact ⟨_, xr, xR HO549.out, xB1 GE544.out HB.out⟩
end Go.Proofs.Ytjplcongellcmaa.PFnFirstCycles
