/- What each Go function that the statement FnFirstCycles reaches answers, proved call by call. No condition beyond those that the theorems print. (Written by wip/tools/xprint.py of this repo, over the kit's print.) -/
import Derived.Test.YtjplcongellcmaaPFnFirstCyclesx0
import Derived.Test.YtjplcongellcmaaPFnFirstCyclesx2
import Derived.Test.YtjplcongellcmaaPFnFirstCyclesx3
import Derived.Test.YtjplcongellcmaaPFnFirstCyclesx4
import Derived.Test.YtjplcongellcmaaPFnFirstCyclesx5
import Derived.Test.YtjplcongellcmaaPFnFirstCyclesx6
import Derived.Test.YtjplcongellcmaaPFnFirstCyclesx9
namespace Go.Proofs.Ytjplcongellcmaa.PFnFirstCycles
open Go.RowKit Go.Proofs.YtjplcongellcmaaW.PrintWords Go.Proofs.YtjplcongellcmaaW.PrintLast Go.Proofs.YtjplcongellcmaaW.PrintMore
attribute [local go_sem] max2_int min2_int max_two min_two max_three min_three max_four min_four   -- for this text's walks alone
set_option linter.unusedVariables false
set_option linter.unusedSimpArgs false
def x10a0 : Array Bool := #[Zz,Zz,Zz,Zz,Zz,Zz,Zz,Zz,Zz,Zz]
def x10a1 : Array Bool := #[Zz,Yy,Zz,Zz,Zz,Zz,Zz,Zz,Zz,Zz]
def x10a2 : Array Bool := #[Zz,Yy,Yy,Zz,Zz,Zz,Zz,Zz,Zz,Zz]
def x10a3 : Array Bool := #[Zz,Yy,Yy,Zz,Zz,Yy,Zz,Zz,Zz,Zz]
def x10a4 : Array Bool := #[Yy,Yy,Yy,Zz,Zz,Yy,Zz,Zz,Zz,Zz]
def x10a5 : Array Bool := #[Yy,Yy,Yy,Yy,Zz,Yy,Zz,Zz,Zz,Zz]
def x10a6 : Array Bool := #[Yy,Yy,Yy,Yy,Yy,Yy,Zz,Zz,Zz,Zz]
def x10a7 : Array Bool := #[Yy,Yy,Yy,Yy,Yy,Yy,Yy,Zz,Zz,Zz]
def x10a8 : Array Bool := #[Yy,Yy,Yy,Yy,Yy,Yy,Yy,Yy,Zz,Zz]
def x10a9 : Array Bool := #[Yy,Yy,Yy,Yy,Yy,Yy,Yy,Yy,Yy,Zz]
def x10a10 : Array Bool := #[Yy,Yy,Yy,Yy,Yy,Yy,Yy,Yy,Yy,Yy]

/-! ### spec_DrawFirstStep: function 103 -/
def spec_DrawFirstStep.f (k : Nat) (l0 : List Int) : Option (Int × Int × Int × Int × Bool × Int × Int) := (spec_l1Cur_first.f l0 0 0 9).bind fun bt439 => ((spec_l1Cur_inWord.f k l0 bt439.2.2.2.2.2.1 bt439.2.2.2.2.2.2 bt439.2.2.2.1 bt439.2.2.2.2.1).bind fun bt447 => ((spec_l1Cur_sample.f l0 bt447.2.1 bt447.2.2 20).bind fun bt450 => (some (bt439.1, bt439.2.1, bt439.2.2.1, bt439.2.2.2.1, bt439.2.2.2.2.1, bt447.1, bt450.1))))
theorem spec_DrawFirstStep.mono : ∀ a0 k, LeO (spec_DrawFirstStep.f k a0) (spec_DrawFirstStep.f (k + 1) a0) := by
 intro a0 k
 have m0 := @spec_l1Cur_inWord.mono
 unfold spec_DrawFirstStep.f
 exact xM
def spec_DrawFirstStep.T3 : Bool × List (List Nat × List Nat) := (true, [([], []), ([], []), ([], []), ([2], [2]), ([1, 3], [1, 3]), ([], []), ([5, 4], [5]), ([0, 6, 0], [0]), ([4, 7, 0, 1, 2, 3, 4, 7], [4]), ([6, 8, 0, 1, 2, 3, 4, 5, 6, 7, 8], [6])])
def spec_DrawFirstStep.B3 : List Nat := [0, 0, 0, 4, 14, 0, 62, 127, 255, 511]
theorem spec_DrawFirstStep.tab3 : rtab .any (opsOf Try.f103 3) = spec_DrawFirstStep.T3 := by kernel_rfl
theorem spec_DrawFirstStep.bits3 : waitsOk spec_DrawFirstStep.T3.2 spec_DrawFirstStep.B3 = true := by kernel_rfl
set_option maxHeartbeats 200000000 in
set_option maxRecDepth 100000 in
theorem spec_DrawFirstStep.calls (k : Nat) (A0 : Option Addr) (c0 : Nat) (l0 : List Int) (r1 : Int) (r2 : Int) (r3 : Int) (r4 : Int) (r5 : Bool) (r6 : Int) (r7 : Int) (w : World) (hr0 : Kd.C (Kd.int .u8) w A0 l0.length l0) (hc0 : l0.length ≤ c0) (h : spec_DrawFirstStep.f k l0 = some (r1, r2, r3, r4, r5, r6, r7)) :
  Calls Try.prog 103 #[.slice A0 l0.length c0] w fun e w' => e = .returned (.tuple #[.agg #[.int .i64 r1, .int .i64 r2, .int .i64 r3, .int .i64 r4, .bool r5], .int .i64 r6, .int .i64 r7]) ∧ Below w.heap.size w w' := by
 have hu62 := Try.underlying62
 have hu129 := Try.underlying129
 have hu46 := Try.underlying46
 have HR0 := xA hr0
 have HC0 := xA hc0
 clear hr0 hc0
 have HB := xA (Below.refl w.heap.size w)
 have H : ((spec_l1Cur_first.f l0 0 0 9).bind fun bt439 => ((spec_l1Cur_inWord.f k l0 bt439.2.2.2.2.2.1 bt439.2.2.2.2.2.2 bt439.2.2.2.1 bt439.2.2.2.2.1).bind fun bt447 => ((spec_l1Cur_sample.f l0 bt447.2.1 bt447.2.2 20).bind fun bt450 => (some (bt439.1, bt439.2.1, bt439.2.2.1, bt439.2.2.2.1, bt439.2.2.2.2.1, bt447.1, bt450.1))))) = some (r1, r2, r3, r4, r5, r6, r7) := h
 clear h
 replace H := Option.bind_eq_some_iff.mp H
 obtain ⟨⟨t439, t440, t441, t442, t443, t444, t445⟩, A20, H⟩ := H
 (try dsimp only at H)
 have A2 := xA A20
 clear A20
 replace H := Option.bind_eq_some_iff.mp H
 obtain ⟨⟨t447, t448, t449⟩, A30, H⟩ := H
 (try dsimp only at H)
 have A3 := xA A30
 clear A30
 replace H := Option.bind_eq_some_iff.mp H
 obtain ⟨⟨t450, t451, t452⟩, A40, H⟩ := H
 (try dsimp only at H)
 have A4 := xA A40
 clear A40
 simp only [Option.some.injEq, Prod.mk.injEq] at H
 obtain ⟨rfl, rfl, rfl, rfl, rfl, rfl, rfl⟩ := H
 go_enter Try.func103, Try.ntmps103
 try go_wp2_with (first | (refine xg 2 rfl ?_; refine xV 2 #[.int .i64 0, .int .i64 0, .int .i64 0, .int .i64 0, .bool false] 62 ?_; intro gb437 hg w5 hbox hb; have BK437 := xA (hbox); have GW437 := xgw hg (below_size (xB HB.out)); have GE437 := GW437; replace HB := xA (below_step (xB HB.out) hb); clear hb hbox hg) | (refine xg 9 rfl ?_; refine xV 9 #[.slice A0 l0.length c0, .int .i64 0, .int .u64 0] 129 ?_; intro gb438 hg w6 hbox hb; have HI438 := xA ((show IsS129 w _ gb438 l0 0 0 from ⟨_, _, hbox, (by rw [hg]; exact (below_size (xB1 GE437.out HB.out)) : w.heap.size ≤ gb438), HR0.out⟩)); replace HB := xA (below_step (xB1 GE437.out HB.out) hb); have NB437_438 := xnl hg BK437; have NB438_437 := xng hg BK437; replace BK437 := xkb BK437 hb; clear hb hbox hg) | (refine xG (some 11) Try.func281 #[.pointer (some ⟨gb438, 0, none⟩), .int .i64 9] ?_; (with_reducible refine (spec_l1Cur_first.calls gb438 l0 0 0 9 t439 t440 t441 t442 t443 t444 t445 w _ ?side1 ?side2 A2.out).mono ?_); (case side1 => exact xJ129_12_1 NB438_437.out HI438.out); (case side2 => exact xB2 (IsS129.ge HI438.out) GE437.out HB.out); rintro e w7 ⟨rfl, hi, hb, hk⟩; refine ⟨_, rfl, ?_⟩; replace BK437 := xkk hk BK437 NB437_438; replace HB := xA (hb); replace HI438 := xA (hi); (try clear hb hk hi)) | (refine xg 6 rfl ?_; refine xV 6 #[.int .i64 0, .int .i64 0, .int .i64 0, .int .i64 0, .bool false] 62 ?_; intro gb446 hg w8 hbox hb; have BK446 := xA (hbox); have GW446 := xgw hg (below_size (xB2 (IsS129.ge HI438.out) GE437.out HB.out)); have GE446 := GW446; replace HB := xA (below_step (xB2 (IsS129.ge HI438.out) GE437.out HB.out) hb); have NB437_446 := xnl hg BK437; have NB446_437 := xng hg BK437; replace BK437 := xkb BK437 hb; have NB438_446 := xA ((by rw [hg]; exact Nat.ne_of_lt (IsS129.lt (show IsS129 w _ gb438 l0 t444 t445 from xJ129_12_1 NB438_437.out HI438.out)) : gb438 ≠ gb446)); have NB446_438 := xA ((by rw [hg]; exact Nat.ne_of_gt (IsS129.lt (show IsS129 w _ gb438 l0 t444 t445 from xJ129_12_1 NB438_437.out HI438.out)) : gb446 ≠ gb438)); replace HI438 := xA (IsS129.below (xJ129_12_1 NB438_437.out HI438.out) hb); clear hb hbox hg; have hnb9 := NB446_437.out; have hnc9 := NB437_446.out; have hnb10 := NB446_438.out; have hnc10 := NB438_446.out; replace hz446 := blk_cell BK446.out; replace hy446 := blk_frozen BK446.out))
 have n0_ : Aside0 ((((((w8.setCell ⟨gb446, 0, none⟩ (.int .i64 t439)).setCell ⟨gb446, 1, none⟩ (.int .i64 t440)).setCell ⟨gb446, 2, none⟩ (.int .i64 t441)).setCell ⟨gb446, 3, none⟩ (.int .i64 t442)).setCell ⟨gb446, 4, none⟩ (.bool t443)).heap[gb437]? = some (.cells #[.int .i64 0, .int .i64 0, .int .i64 0, .int .i64 0, .bool false] 62 (0, 0))) := ⟨by (with_reducible repeat (first | refine blk_drewN ?_ _ | refine blk_drew ?_ | refine blk_alloc ?_ _)); refine blk_far ?_ NB437_446.out _; (with_reducible repeat (first | refine blk_drewN ?_ _ | refine blk_drew ?_ | refine blk_alloc ?_ _)); refine blk_far ?_ NB437_446.out _; (with_reducible repeat (first | refine blk_drewN ?_ _ | refine blk_drew ?_ | refine blk_alloc ?_ _)); refine blk_far ?_ NB437_446.out _; (with_reducible repeat (first | refine blk_drewN ?_ _ | refine blk_drew ?_ | refine blk_alloc ?_ _)); refine blk_far ?_ NB437_446.out _; (with_reducible repeat (first | refine blk_drewN ?_ _ | refine blk_drew ?_ | refine blk_alloc ?_ _)); refine blk_far ?_ NB437_446.out _; (with_reducible repeat (first | refine blk_drewN ?_ _ | refine blk_drew ?_ | refine blk_alloc ?_ _)); exact BK437.out⟩
 have n1_ : Aside0 ((((((w8.setCell ⟨gb446, 0, none⟩ (.int .i64 t439)).setCell ⟨gb446, 1, none⟩ (.int .i64 t440)).setCell ⟨gb446, 2, none⟩ (.int .i64 t441)).setCell ⟨gb446, 3, none⟩ (.int .i64 t442)).setCell ⟨gb446, 4, none⟩ (.bool t443)).heap[gb446]? = some (.cells #[.int .i64 t439, .int .i64 t440, .int .i64 t441, .int .i64 t442, .bool t443] 62 (0, 0))) := ⟨by (with_reducible repeat (first | refine blk_drewN ?_ _ | refine blk_drew ?_ | refine blk_alloc ?_ _)); refine blk_put (cs := #[.int .i64 t439, .int .i64 t440, .int .i64 t441, .int .i64 t442, .bool false]) ?_ 4 _ rfl; (with_reducible repeat (first | refine blk_drewN ?_ _ | refine blk_drew ?_ | refine blk_alloc ?_ _)); refine blk_put (cs := #[.int .i64 t439, .int .i64 t440, .int .i64 t441, .int .i64 0, .bool false]) ?_ 3 _ rfl; (with_reducible repeat (first | refine blk_drewN ?_ _ | refine blk_drew ?_ | refine blk_alloc ?_ _)); refine blk_put (cs := #[.int .i64 t439, .int .i64 t440, .int .i64 0, .int .i64 0, .bool false]) ?_ 2 _ rfl; (with_reducible repeat (first | refine blk_drewN ?_ _ | refine blk_drew ?_ | refine blk_alloc ?_ _)); refine blk_put (cs := #[.int .i64 t439, .int .i64 0, .int .i64 0, .int .i64 0, .bool false]) ?_ 1 _ rfl; (with_reducible repeat (first | refine blk_drewN ?_ _ | refine blk_drew ?_ | refine blk_alloc ?_ _)); refine blk_put (cs := #[.int .i64 0, .int .i64 0, .int .i64 0, .int .i64 0, .bool false]) ?_ 0 _ rfl; (with_reducible repeat (first | refine blk_drewN ?_ _ | refine blk_drew ?_ | refine blk_alloc ?_ _)); exact BK446.out⟩
 have n2_ : Aside0 (IsS129 w (((((w8.setCell ⟨gb446, 0, none⟩ (.int .i64 t439)).setCell ⟨gb446, 1, none⟩ (.int .i64 t440)).setCell ⟨gb446, 2, none⟩ (.int .i64 t441)).setCell ⟨gb446, 3, none⟩ (.int .i64 t442)).setCell ⟨gb446, 4, none⟩ (.bool t443)) gb438 l0 t444 t445) := ⟨xJ129_12_2 NB438_437.out NB438_446.out HI438.out⟩
 have n3_ : Aside0 (Below w.heap.size w (((((w8.setCell ⟨gb446, 0, none⟩ (.int .i64 t439)).setCell ⟨gb446, 1, none⟩ (.int .i64 t440)).setCell ⟨gb446, 2, none⟩ (.int .i64 t441)).setCell ⟨gb446, 3, none⟩ (.int .i64 t442)).setCell ⟨gb446, 4, none⟩ (.bool t443))) := ⟨xB3 (IsS129.ge HI438.out) GE437.out GE446.out HB.out⟩
 (try clear BK437)
 (try clear BK446)
 (try clear HI438)
 (try clear HB)
 generalize (((((w8.setCell ⟨gb446, 0, none⟩ (.int .i64 t439)).setCell ⟨gb446, 1, none⟩ (.int .i64 t440)).setCell ⟨gb446, 2, none⟩ (.int .i64 t441)).setCell ⟨gb446, 3, none⟩ (.int .i64 t442)).setCell ⟨gb446, 4, none⟩ (.bool t443)) = w12 at n0_ n1_ n2_ n3_ ⊢
 have BK437 := n0_
 have BK446 := n1_
 have HI438 := n2_
 have HB := n3_
 clear n0_ n1_ n2_ n3_
 replace BK437 := xA (blk_drew BK437.out)
 replace BK446 := xA (blk_drew BK446.out)
 replace HI438 := xA (IsS129.drew HI438.out)
 replace HB := xA (below_drew1 HB.out)
 refine start_ (n := 10) (S := fun w' => w'.cell? ⟨gb446, 0, none⟩ = some (.int .i64 t439) ∧ w'.cell? ⟨gb446, 1, none⟩ = some (.int .i64 t440) ∧ w'.cell? ⟨gb446, 2, none⟩ = some (.int .i64 t441) ∧ w'.cell? ⟨gb446, 3, none⟩ = some (.int .i64 t442) ∧ w'.cell? ⟨gb446, 4, none⟩ = some (.bool t443)) (ds := []) x10a0 (by kernel_rfl) rfl rfl ⟨(blk_cell BK446.out 0).trans rfl, (blk_cell BK446.out 1).trans rfl, (blk_cell BK446.out 2).trans rfl, (blk_cell BK446.out 3).trans rfl, (blk_cell BK446.out 4).trans rfl⟩ (fun hHeld => ?_); refine with_tabW spec_DrawFirstStep.tab3 spec_DrawFirstStep.bits3 (fun HT_ HW_ => ?_)
 generalize w12.drew = w13 at BK437 BK446 HI438 HB hHeld ⊢
 refine xP 1 13 x10a1 ?_
 refine xP 2 14 x10a2 ?_
 refine xP 5 17 x10a3 ?_
 refine xT5 hHeld 0 12 x10a4 ?_
 refine xT5 hHeld 3 15 x10a5 ?_
 refine xU 4 16 x10a6 (fun K hK => ?_)
 refine xY Try.func282 #[.pointer (some ⟨gb438, 0, none⟩), .agg #[.int .i64 t442, .bool t443]] ?_
 with_reducible refine (spec_l1Cur_inWord.calls k gb438 l0 t444 t445 t442 t443 t447 t448 t449 w _ ?side1 ?side2 A3.out).mono ?_
 (case side1 => exact xJ129_12_2 NB438_437.out NB438_446.out HI438.out)
 (case side2 => exact xB3 (IsS129.ge HI438.out) GE437.out GE446.out HB.out)
 rintro e w14 ⟨rfl, hi, hb, hk⟩
 refine ⟨_, rfl, ?_⟩
 replace BK437 := xkk hk BK437 NB437_438
 replace BK446 := xkk hk BK446 NB446_438
 replace HB := xA (hb)
 replace HI438 := xA (hi)
 (try clear hb); (try clear hb2); (try clear hk); (try clear hi)
 refine hK.out _ _ ⟨(blk_cell BK446.out 0).trans rfl, (blk_cell BK446.out 1).trans rfl, (blk_cell BK446.out 2).trans rfl, (blk_cell BK446.out 3).trans rfl, (blk_cell BK446.out 4).trans rfl⟩ (fun hHeld => ?_)
 clear hK K
 refine xN ?_
 refine xU 6 18 x10a7 (fun K hK => ?_)
 refine xY Try.func301 #[.pointer (some ⟨gb438, 0, none⟩), .int .i64 20] ?_
 with_reducible refine (spec_l1Cur_sample.calls gb438 l0 t448 t449 20 t450 t451 t452 w _ ?side1 ?side2 A4.out).mono ?_
 (case side1 => exact xJ129_12_2 NB438_437.out NB438_446.out HI438.out)
 (case side2 => exact xB3 (IsS129.ge HI438.out) GE437.out GE446.out HB.out)
 rintro e w15 ⟨rfl, hi, hb, hk⟩
 refine ⟨_, rfl, ?_⟩
 replace BK437 := xkk hk BK437 NB437_438
 replace BK446 := xkk hk BK446 NB446_438
 replace HB := xA (hb)
 replace HI438 := xA (hi)
 (try clear hb); (try clear hb2); (try clear hk); (try clear hi)
 refine hK.out _ _ ⟨(blk_cell BK446.out 0).trans rfl, (blk_cell BK446.out 1).trans rfl, (blk_cell BK446.out 2).trans rfl, (blk_cell BK446.out 3).trans rfl, (blk_cell BK446.out 4).trans rfl⟩ (fun hHeld => ?_)
 clear hK K
 refine xN ?_
 refine one_ (i := 7) (N := none) x10a8 rfl rfl (one_of HT_.out (by kernel_rfl)) (by decide) (fun K hK => ?_)
 have hs16 : w15.cell? ⟨gb437, 0, none⟩ = some (.int .i64 0) := (blk_cell BK437.out 0).trans rfl
 have hfs16 := blk_frozen BK437.out 0
 have hns16_1 := NB446_437.out
 have hms16_1 := NB437_446.out
 have hs17 : w15.cell? ⟨gb437, 1, none⟩ = some (.int .i64 0) := (blk_cell BK437.out 1).trans rfl
 have hfs17 := blk_frozen BK437.out 1
 have hns17_1 := NB446_437.out
 have hms17_1 := NB437_446.out
 have hs18 : w15.cell? ⟨gb437, 2, none⟩ = some (.int .i64 0) := (blk_cell BK437.out 2).trans rfl
 have hfs18 := blk_frozen BK437.out 2
 have hns18_1 := NB446_437.out
 have hms18_1 := NB437_446.out
 have hs19 : w15.cell? ⟨gb437, 3, none⟩ = some (.int .i64 0) := (blk_cell BK437.out 3).trans rfl
 have hfs19 := blk_frozen BK437.out 3
 have hns19_1 := NB446_437.out
 have hms19_1 := NB437_446.out
 have hs20 : w15.cell? ⟨gb437, 4, none⟩ = some (.bool false) := (blk_cell BK437.out 4).trans rfl
 have hfs20 := blk_frozen BK437.out 4
 have hns20_1 := NB446_437.out
 have hms20_1 := NB437_446.out
 refine skip_ (w1 := ?_) (by rfl) rfl ?_ ?_
 rotate_left
 ·go_simp
  rfl
 refine hK.out _ _ ⟨(xCf1 NB446_437.out hHeld.1), (xCf1 NB446_437.out hHeld.2.1), (xCf1 NB446_437.out hHeld.2.2.1), (xCf1 NB446_437.out hHeld.2.2.2.1), (xCf1 NB446_437.out hHeld.2.2.2.2)⟩ (fun hHeld => ?_)
 clear hK K
 refine xP 8 3 x10a9 ?_
 refine xP 9 4 x10a10 ?_
 refine xDn ?_
 try go_wp2
 refine bodyPost_ret (results_ctt rfl _ _ gb437 62 #[.int .i64 t439, .int .i64 t440, .int .i64 t441, .int .i64 t442, .bool t443] (0, 0) _ rfl (xPt0 BK437.out) Try.underlying62 rfl (by kernel_rfl)) rfl ?_
 exact ⟨xr, xB3 (IsS129.ge HI438.out) GE437.out GE446.out HB.out⟩

/-! ### spec_DrawFirstPeriod: function 113 -/
def spec_DrawFirstPeriod.f (k : Nat) (l0 : List Int) : Option (Int × Int × Int × Int × Bool × Int × Int) := (spec_DrawFirstStep.f k l0).bind fun bt454 => (some (bt454.1, bt454.2.1, bt454.2.2.1, bt454.2.2.2.1, bt454.2.2.2.2.1, bt454.2.2.2.2.2.1, bt454.2.2.2.2.2.2))
theorem spec_DrawFirstPeriod.mono : ∀ a0 k, LeO (spec_DrawFirstPeriod.f k a0) (spec_DrawFirstPeriod.f (k + 1) a0) := by
 intro a0 k
 have m0 := @spec_DrawFirstStep.mono
 unfold spec_DrawFirstPeriod.f
 exact xM
set_option maxHeartbeats 200000000 in
set_option maxRecDepth 100000 in
theorem spec_DrawFirstPeriod.calls (k : Nat) (A0 : Option Addr) (c0 : Nat) (l0 : List Int) (r1 : Int) (r2 : Int) (r3 : Int) (r4 : Int) (r5 : Bool) (r6 : Int) (r7 : Int) (w : World) (hr0 : Kd.C (Kd.int .u8) w A0 l0.length l0) (hc0 : l0.length ≤ c0) (h : spec_DrawFirstPeriod.f k l0 = some (r1, r2, r3, r4, r5, r6, r7)) :
  Calls Try.prog 113 #[.slice A0 l0.length c0] w fun e w' => e = .returned (.tuple #[.agg #[.int .i64 r1, .int .i64 r2, .int .i64 r3, .int .i64 r4, .bool r5], .int .i64 r6, .int .i64 r7]) ∧ Below w.heap.size w w' := by
 have hu62 := Try.underlying62
 have HR0 := xA hr0
 have HC0 := xA hc0
 clear hr0 hc0
 have HB := xA (Below.refl w.heap.size w)
 have H : ((spec_DrawFirstStep.f k l0).bind fun bt454 => (some (bt454.1, bt454.2.1, bt454.2.2.1, bt454.2.2.2.1, bt454.2.2.2.2.1, bt454.2.2.2.2.2.1, bt454.2.2.2.2.2.2))) = some (r1, r2, r3, r4, r5, r6, r7) := h
 clear h
 replace H := Option.bind_eq_some_iff.mp H
 obtain ⟨⟨t454, t455, t456, t457, t458, t459, t460⟩, A20, H⟩ := H
 (try dsimp only at H)
 have A2 := xA A20
 clear A20
 simp only [Option.some.injEq, Prod.mk.injEq] at H
 obtain ⟨rfl, rfl, rfl, rfl, rfl, rfl, rfl⟩ := H
 go_enter Try.func113, Try.ntmps113
 go_wp2_with (first | (refine xg 2 rfl ?_; refine xV 2 #[.int .i64 0, .int .i64 0, .int .i64 0, .int .i64 0, .bool false] 62 ?_; intro gb453 hg w3 hbox hb; have BK453 := xA (hbox); have GW453 := xgw hg (below_size (xB HB.out)); have GE453 := GW453; replace HB := xA (below_step (xB HB.out) hb); clear hb hbox hg) | (refine xG (some 6) Try.func103 #[.slice A0 l0.length c0] ?_; (with_reducible refine (spec_DrawFirstStep.calls k _ _ l0 t454 t455 t456 t457 t458 t459 t460 _ ?side1 ?side2 A2.out).mono ?_); (case side1 => exact xC (Kd.C_below HR0.out HB.out)); (case side2 => exact HC0.out); rintro e w4 ⟨rfl, hb⟩; refine ⟨_, rfl, ?_⟩; replace BK453 := xkb BK453 hb; replace HB := xA (below_step (xB1 GE453.out HB.out) hb); (try clear hb); obtain ⟨hcz5_0, hcz5_1, hcz5_2, hcz5_3, hcz5_4, hfz5_0, hfz5_1, hfz5_2, hfz5_3, hfz5_4⟩ := xZ5 BK453.out))
 refine bodyPost_ret (results_ctt rfl _ _ gb453 62 #[.int .i64 t454, .int .i64 t455, .int .i64 t456, .int .i64 t457, .bool t458] (0, 0) _ rfl (xPt0 BK453.out) Try.underlying62 rfl (by kernel_rfl)) rfl ?_
 exact ⟨xr, xB1 GE453.out HB.out⟩

/-! ### spec_FirstPeriod: function 114 -/
def spec_FirstPeriod.l0 : Nat → Int → Int → Int → List Int → Int → Int → Int → Int → Int → Bool → Option (Int × Int × Bool)
 | 0, _, _, _, _, _, _, _, _, _, _ => none
 | k + 1, x1, x2, x9, x10, x11, x462000, x462001, x462002, x462003, x462004 => if 0 ≤ (wrap64 (x1 - x9)) then (if (wrap64 (x1 - x9)) < (x10.length : Int) then (if (rd x10 (wrap64 (x1 - x9))) > 0 then (some (wrap64 ((rd x10 (wrap64 (x1 - x9))) - 1), wrap64 (x11 - (rd x10 (wrap64 (x1 - x9)))), true)) else ((spec_foStep.f k x462000 x462001 x462002 x462003 x462004 x1 x2).bind fun t469 => (spec_FirstPeriod.l0 k t469 x2 x9 (x10.set ((wrap64 (x1 - x9)) : Int).toNat x11) (wrap64 (x11 + 1)) x462000 x462001 x462002 x462003 x462004))) else (none)) else (none)
def spec_FirstPeriod.f (k : Nat) (a0_0 : Int) (a0_1 : Int) (a0_2 : Int) (a0_3 : Int) (a0_4 : Bool) (a1 : Int) (a2 : Int) : Option (Int × Int × Bool) := (spec_foAsked.f a0_0 a0_1 a0_2 a0_3 a0_4 a1 a2).bind fun t462 => (if t462 = true then ((spec_wdLow.f a0_3 a0_4).bind fun t463 => (if 0 ≤ a0_3 then (if 0 ≤ (shl .i64 1 a0_3) then (if (shl .i64 1 a0_3 : Int).toNat ≤ 35184372088832 then (spec_FirstPeriod.l0 k a1 a2 t463 (List.replicate (shl .i64 1 a0_3 : Int).toNat 0) 1 a0_0 a0_1 a0_2 a0_3 a0_4) else (none)) else (none)) else (none))) else (some (0, 0, false)))
theorem spec_FirstPeriod.mono_l : ∀ k, (∀ y0 y1 y2 y3 y4 y5 y6 y7 y8 y9, LeO (spec_FirstPeriod.l0 k y0 y1 y2 y3 y4 y5 y6 y7 y8 y9) (spec_FirstPeriod.l0 (k + 1) y0 y1 y2 y3 y4 y5 y6 y7 y8 y9))
 | 0 => fun _ _ _ _ _ _ _ _ _ _ r h => by simp [spec_FirstPeriod.l0] at h
 | k + 1 => by
  have ih0 := spec_FirstPeriod.mono_l k
  have m0 := @spec_foStep.mono
  intros
  unfold spec_FirstPeriod.l0
  exact xM
theorem spec_FirstPeriod.mono : ∀ a0 a1 a2 a3 a4 a5 a6 k, LeO (spec_FirstPeriod.f k a0 a1 a2 a3 a4 a5 a6) (spec_FirstPeriod.f (k + 1) a0 a1 a2 a3 a4 a5 a6) := by
 intro a0 a1 a2 a3 a4 a5 a6 k
 have ih0 := spec_FirstPeriod.mono_l k
 have m0 := @spec_foStep.mono
 unfold spec_FirstPeriod.f
 exact xM
set_option maxHeartbeats 200000000 in
set_option maxRecDepth 100000 in
theorem spec_FirstPeriod.calls (k : Nat) (a0_0 : Int) (a0_1 : Int) (a0_2 : Int) (a0_3 : Int) (a0_4 : Bool) (a1 : Int) (a2 : Int) (r1 : Int) (r2 : Int) (r3 : Bool) (w : World) (h : spec_FirstPeriod.f k a0_0 a0_1 a0_2 a0_3 a0_4 a1 a2 = some (r1, r2, r3)) :
  Calls Try.prog 114 #[.agg #[.int .i64 a0_0, .int .i64 a0_1, .int .i64 a0_2, .int .i64 a0_3, .bool a0_4], .int .i64 a1, .int .i64 a2] w fun e w' => e = .returned (.tuple #[.int .i64 r1, .int .i64 r2, .bool r3]) ∧ Below w.heap.size w w' := by
 have hu62 := Try.underlying62
 have hu46 := Try.underlying46
 have HB := xA (Below.refl w.heap.size w)
 have H : ((spec_foAsked.f a0_0 a0_1 a0_2 a0_3 a0_4 a1 a2).bind fun t462 => (if t462 = true then ((spec_wdLow.f a0_3 a0_4).bind fun t463 => (if 0 ≤ a0_3 then (if 0 ≤ (shl .i64 1 a0_3) then (if (shl .i64 1 a0_3 : Int).toNat ≤ 35184372088832 then (spec_FirstPeriod.l0 k a1 a2 t463 (List.replicate (shl .i64 1 a0_3 : Int).toNat 0) 1 a0_0 a0_1 a0_2 a0_3 a0_4) else (none)) else (none)) else (none))) else (some (0, 0, false)))) = some (r1, r2, r3) := h
 clear h
 obtain ⟨t462, A4, H⟩ := xO H
 (try dsimp only at H)
 by_cases c5 : t462 = true
 rotate_left
 ·replace c5 := Bool.eq_false_iff.mpr c5
  subst c5
  rw [if_neg (show ¬ (false = true) by decide)] at H
  simp only [Option.some.injEq, Prod.mk.injEq] at H
  obtain ⟨rfl, rfl, rfl⟩ := H
  go_enter Try.func114, Try.ntmps114
  go_wp2_with (first | (refine xg 3 rfl ?_; refine xV 3 #[.int .i64 a0_0, .int .i64 a0_1, .int .i64 a0_2, .int .i64 a0_3, .bool a0_4] 62 ?_; intro gb461 hg w31 hbox hb; have BK461 := xA (hbox); have GW461 := xgw hg (below_size (xB HB.out)); have GE461 := GW461; replace HB := xA (below_step (xB HB.out) hb); clear hb hbox hg; replace hz461 := blk_cell BK461.out; replace hy461 := blk_frozen BK461.out) | (refine xG (some 16) Try.func285 #[.agg #[.int .i64 a0_0, .int .i64 a0_1, .int .i64 a0_2, .int .i64 a0_3, .bool a0_4], .int .i64 a1, .int .i64 a2] ?_; (with_reducible refine (spec_foAsked.calls a0_0 a0_1 a0_2 a0_3 a0_4 a1 a2 false _ A4.out).mono ?_); rintro e w33 ⟨rfl, hb⟩; refine ⟨_, rfl, ?_⟩; replace BK461 := xkb BK461 hb; replace HB := xA (below_step (xB1 GE461.out HB.out) hb); (try clear hb)))
  go_ret3
  exact ⟨xr, xB1 GE461.out HB.out⟩

 subst c5
 rw [if_pos rfl] at H
 obtain ⟨t463, A6, H⟩ := xO H
 (try dsimp only at H)
 by_cases c7 : 0 ≤ a0_3
 rotate_left
 ·rw [if_neg c7] at H
  exact absurd H (by simp)
 rw [if_pos c7] at H
 have c7b0 := eq_true c7
 have c7b1 : decide (0 ≤ a0_3) = true := decide_eq_true c7
 clear c7
 obtain ⟨ji8, hji8⟩ : ∃ j_ : Int, (shl .i64 1 a0_3) = j_ := ⟨_, rfl⟩
 (first | rw [hji8] at H | simp only [hji8] at H)
 (try rw [hji8] at A4)
 (try rw [hji8] at A6)
 have hji8_ : (IntKind.i64.wrap (1 * 2 ^ min a0_3.toNat 64)) = ji8 := hji8
 have hji8z : a0_3 ≤ 64 → (IntKind.i64.wrap (1 * 2 ^ a0_3.toNat)) = ji8 := shl_small hji8
 have hji8u : (IntKind.i64.wrap (2 ^ min a0_3.toNat 64)) = ji8 := by have h_ := hji8_; rw [Int.one_mul] at h_; exact h_
 have hji8v : a0_3 ≤ 64 → (IntKind.i64.wrap (2 ^ a0_3.toNat)) = ji8 := fun hle_ => by have h_ := hji8z hle_; rw [Int.one_mul] at h_; exact h_
 have hji8y : (wrap64 (1 * 2 ^ min a0_3.toNat 64)) = ji8 := (i64_w _).symm.trans hji8_
 have hji8x : a0_3 ≤ 64 → (wrap64 (1 * 2 ^ a0_3.toNat)) = ji8 := fun h_ => (i64_w _).symm.trans (hji8z h_)
 by_cases c9 : 0 ≤ (ji8)
 rotate_left
 ·rw [if_neg c9] at H
  exact absurd H (by simp)
 rw [if_pos c9] at H
 have c9b0 := eq_true c9
 have c9b1 : decide (0 ≤ (ji8)) = true := decide_eq_true c9
 clear c9
 by_cases c10 : (ji8 : Int).toNat ≤ 35184372088832
 rotate_left
 ·rw [if_neg c10] at H
  exact absurd H (by simp)
 rw [if_pos c10] at H
 have c10b0 := eq_true c10
 have c10b1 : decide ((ji8 : Int).toNat ≤ 35184372088832) = true := decide_eq_true c10
 clear c10
 obtain ⟨y464, hy464⟩ : ∃ y_ : List Int, y_ = (List.replicate (ji8 : Int).toNat 0) := ⟨_, rfl⟩
 replace H : (spec_FirstPeriod.l0 k a1 a2 t463 y464 1 a0_0 a0_1 a0_2 a0_3 a0_4) = some (r1, r2, r3) := by first | (rw [hy464]; with_reducible exact H) | (have H2_ := (Option.bind_some _ _).symm.trans H; rw [hy464]; with_reducible exact H2_) | (have H2_ := (Option.bind_some _ _).symm.trans H; with_reducible exact H2_) | with_reducible exact H | (rw [hy464]; exact H) | exact H
 have Ny464 := xA hy464
 clear hy464
 have H' := xA H
 clear H
 go_enter Try.func114, Try.ntmps114
 go_wp2_with (first | (refine xq rfl ?_; first | (refine xG (some 16) Try.func285 #[.agg #[.int .i64 a0_0, .int .i64 a0_1, .int .i64 a0_2, .int .i64 a0_3, .bool a0_4], .int .i64 a1, .int .i64 a2] ?_; (with_reducible refine (spec_foAsked.calls a0_0 a0_1 a0_2 a0_3 a0_4 a1 a2 true _ A4.out).mono ?_); rintro e w13 ⟨rfl, hb⟩; refine ⟨_, rfl, ?_⟩; replace BK461 := xkb BK461 hb; replace HB := xA (below_step (xB1 GE461.out HB.out) hb); (try clear hb); obtain ⟨hcz14_0, hcz14_1, hcz14_2, hcz14_3, hcz14_4, hfz14_0, hfz14_1, hfz14_2, hfz14_3, hfz14_4⟩ := xZ5 BK461.out) | (refine xG (some 20) Try.func268 #[.agg #[.int .i64 a0_3, .bool a0_4]] ?_; (with_reducible refine (spec_wdLow.calls a0_3 a0_4 t463 _ A6.out).mono ?_); rintro e w15 ⟨rfl, hb⟩; refine ⟨_, rfl, ?_⟩; replace BK461 := xkb BK461 hb; replace HB := xA (below_step (xB1 GE461.out HB.out) hb); (try clear hb); obtain ⟨hcz16_0, hcz16_1, hcz16_2, hcz16_3, hcz16_4, hfz16_0, hfz16_1, hfz16_2, hfz16_3, hfz16_4⟩ := xZ5 BK461.out)) | (refine xg 3 rfl ?_; refine xV 3 #[.int .i64 a0_0, .int .i64 a0_1, .int .i64 a0_2, .int .i64 a0_3, .bool a0_4] 62 ?_; intro gb461 hg w11 hbox hb; have BK461 := xA (hbox); have GW461 := xgw hg (below_size (xB HB.out)); have GE461 := GW461; replace HB := xA (below_step (xB HB.out) hb); clear hb hbox hg; obtain ⟨hcz12_0, hcz12_1, hcz12_2, hcz12_3, hcz12_4, hfz12_0, hfz12_1, hfz12_2, hfz12_3, hfz12_4⟩ := xZ5 BK461.out) | ((with_reducible refine gate_dst (N := 25) rfl ?_); refine Kd.R_make (Kd.int .i64) _ 3 rfl (N := 25) rfl 24 _ _ rfl ji8 rfl rfl Try.underlying24 (.int .i64 0) 8 info3 rfl (by decide) (by omega) 0 (ok := fun _ => True) (okp := fun _ => True) rfl (fun _ hk => hk) trivial (of_decide_eq_true (by first | (with_reducible assumption) | assumption)) (Nat.le_trans (Nat.mul_le_mul_right _ (of_decide_eq_true (by first | (with_reducible assumption) | assumption) : ji8.toNat ≤ 35184372088832)) (by omega)) (Below.refl _ _) (Nat.le_refl _) ?_; intro v465 w17 ho18 hb hg_ hnew_; clear hg_ hnew_; (first | rw [← Ny464.out] at ho18 | (simp only [Int.reduceToNat] at ho18; rw [← Ny464.out] at ho18)); have HO466 := xA (Kd.R_lower ho18 (below_size (xB1 GE461.out HB.out))); replace BK461 := xkb BK461 hb; replace HB := xA (below_step (xB1 GE461.out HB.out) hb); clear hb ho18))
 go_loopg [1, 11] k (fun kq v1 v11 w' => ∃ (x1_1 : Int) (x10_1 : List Int) (x11_1 : Int), v1 = .int .i64 x1_1 ∧ v11 = .int .i64 x11_1 ∧ Aside0 (spec_FirstPeriod.l0 kq x1_1 a2 t463 x10_1 x11_1 a0_0 a0_1 a0_2 a0_3 a0_4 = some (r1, r2, r3)) ∧ Aside0 (kq ≤ k) ∧ Aside0 (Kd.R (Kd.int .i64) 3 w' w.heap.size (fun _ => True) v465 x10_1) ∧ Aside0 (w'.heap[gb461]? = some (.cells #[.int .i64 a0_0, .int .i64 a0_1, .int .i64 a0_2, .int .i64 a0_3, .bool a0_4] 62 (0, 0))) ∧ Aside0 (Below w.heap.size w w'))
 case atStart => exact ⟨(a1), (y464), (1), xs, xs, H', ⟨Nat.le_refl _⟩, ⟨xR HO466.out⟩, ⟨xK BK461.out⟩, ⟨xB1 GE461.out HB.out⟩⟩
 case round =>
  clear H'
  try clear c5
  try clear c7b0
  try clear c7b1
  try clear c9b0
  try clear c9b1
  try clear c10b0
  try clear c10b1
  try clear hcz12_0
  try clear hcz12_1
  try clear hcz12_2
  try clear hcz12_3
  try clear hcz12_4
  try clear hcz14_0
  try clear hcz14_1
  try clear hcz14_2
  try clear hcz14_3
  try clear hcz14_4
  try clear hcz16_0
  try clear hcz16_1
  try clear hcz16_2
  try clear hcz16_3
  try clear hcz16_4
  try clear hfz12_0
  try clear hfz12_1
  try clear hfz12_2
  try clear hfz12_3
  try clear hfz12_4
  try clear hfz14_0
  try clear hfz14_1
  try clear hfz14_2
  try clear hfz14_3
  try clear hfz14_4
  try clear hfz16_0
  try clear hfz16_1
  try clear hfz16_2
  try clear hfz16_3
  try clear hfz16_4
  obtain ⟨x1_1, x10_1, x11_1, rfl, rfl, HA, HK1, HO_10, BK461, HB⟩ := hrel
  cases gk with
  | zero => exact absurd HA.out (by simp [spec_FirstPeriod.l0])
  | succ k1 =>
   have H := HA.out
   clear HA
   simp only [spec_FirstPeriod.l0] at H
   obtain ⟨ji19, hji19⟩ : ∃ j_ : Int, (wrap64 (x1_1 - t463)) = j_ := ⟨_, rfl⟩
   (first | rw [hji19] at H | simp only [hji19] at H)
   have hji19w : (IntKind.i64.wrap (x1_1 - t463)) = ji19 := (i64_w _).trans hji19
   by_cases c20 : 0 ≤ (ji19)
   rotate_left
   ·rw [if_neg c20] at H
    exact absurd H (by simp)
   rw [if_pos c20] at H
   have c20b0 : decide (0 ≤ (ji19)) = true := decide_eq_true c20
   clear c20
   by_cases c21 : (ji19) < (x10_1.length : Int)
   rotate_left
   ·rw [if_neg c21] at H
    exact absurd H (by simp)
   rw [if_pos c21] at H
   have c21b0 : decide ((ji19) < (x10_1.length : Int)) = true := decide_eq_true c21
   clear c21
   by_cases c22 : (rd x10_1 (ji19)) > 0
   ·rw [if_pos c22] at H
    have c22b0 : decide (0 < (rd x10_1 (ji19))) = true := decide_eq_true c22
    clear c22
    simp only [Option.some.injEq, Prod.mk.injEq] at H
    obtain ⟨rfl, rfl, rfl⟩ := H
    obtain ⟨Ao23, co23, eo23⟩ := Kd.R_slice HO_10.out
    subst eo23
    have p467 : 0 ≤ ((ji19) : Int) := of_decide_eq_true (by first | (with_reducible assumption) | assumption | (rw [← hji19]; first | (with_reducible assumption) | assumption))
    have q467 : (ji19) < (x10_1.length : Int) := of_decide_eq_true (by first | (with_reducible assumption) | assumption | (rw [← hji19]; first | (with_reducible assumption) | assumption))
    obtain ⟨ad467, e467, hx467_0⟩ := Kd.at_int (Kd.R_reads' HO_10.out).2.2 (ji19) p467 q467
    cases e467
    replace p467 := eq_true p467
    replace q467 := eq_true q467
    go_wp2
    go_ret3
    exact ⟨by first | rfl | (simp [errW_none, errW_some] <;> rfl) | (simp only [← hji8, ← hji19]; first | rfl | (simp [errW_none, errW_some] <;> rfl)) | (simp [*, errW_none, errW_some] <;> rfl), xB1 GE461.out HB.out⟩
   rw [if_neg c22] at H
   have c22b0 : decide (0 < (rd x10_1 (ji19))) = false := decide_eq_false c22
   clear c22
   obtain ⟨y468, hy468⟩ : ∃ y_ : List Int, y_ = (x10_1.set ((ji19) : Int).toNat x11_1) := ⟨_, rfl⟩
   replace H : ((spec_foStep.f k1 a0_0 a0_1 a0_2 a0_3 a0_4 x1_1 a2).bind fun t469 => (spec_FirstPeriod.l0 k1 t469 a2 t463 y468 (wrap64 (x11_1 + 1)) a0_0 a0_1 a0_2 a0_3 a0_4)) = some (r1, r2, r3) := by first | (rw [hy468]; with_reducible exact H) | (have H2_ := (Option.bind_some _ _).symm.trans H; rw [hy468]; with_reducible exact H2_) | (have H2_ := (Option.bind_some _ _).symm.trans H; with_reducible exact H2_) | with_reducible exact H | (rw [hy468]; exact H) | exact H
   have Ny468 := xA hy468
   clear hy468
   obtain ⟨t469, A25, H⟩ := xO H
   (try dsimp only at H)
   have H' := xA H
   clear H
   obtain ⟨Ao26, co26, eo26⟩ := Kd.R_slice HO_10.out
   subst eo26
   have p467 : 0 ≤ ((ji19) : Int) := of_decide_eq_true (by first | (with_reducible assumption) | assumption | (rw [← hji19]; first | (with_reducible assumption) | assumption))
   have q467 : (ji19) < (x10_1.length : Int) := of_decide_eq_true (by first | (with_reducible assumption) | assumption | (rw [← hji19]; first | (with_reducible assumption) | assumption))
   obtain ⟨ad467, e467, hx467_0⟩ := Kd.at_int (Kd.R_reads' HO_10.out).2.2 (ji19) p467 q467
   cases e467
   replace p467 := eq_true p467
   replace q467 := eq_true q467
   have p24 : 0 ≤ ((ji19) : Int) := of_decide_eq_true (by first | (with_reducible assumption) | assumption | (rw [← hji19]; first | (with_reducible assumption) | assumption))
   have q24 : ((ji19) : Int) < ((x10_1.length : Int) : Int) := of_decide_eq_true (by first | (with_reducible assumption) | assumption | (rw [← hji19]; first | (with_reducible assumption) | assumption))
   obtain ⟨go24, co24, eo24, gb24, gl24, cl24, HG24⟩ := Kd.R_form HO_10.out (by omega)
   (first | cases eo24 | (injection eo24 with ea_ en_ ec_; (first | subst ea_ | (injection ea_ with ea_; subst ea_)); subst ec_; clear en_))
   have GB24 := xA gb24
   have GG24 := xA HG24
   clear gb24 gl24 HG24
   (first | simp only [add_plain] at hx467_0 | skip)
   obtain ⟨hx24_0, hf24_0⟩ := Kd.R_celln 0 HO_10.out ((ji19) : Int) p24 q24
   replace p24 := eq_true p24
   replace q24 := eq_true q24
   have HP27 := Kd.R_putg HO_10.out ((ji19) : Int) x11_1
   go_wp2_with (first | ((with_reducible refine gate_store (t := 3) (p := 46) rfl ?_); refine store_event (t := 3) (p := 46) (v := ?vo_w28) (w1 := (wr.setCell ⟨go24, ((ji19) : Int).toNat, none⟩ (.int .i64 x11_1))) ?hg ?ho ?hn ?hr ?_; (case ho => rfl); (case hg => rfl); (case hn => rfl); (case hr => first | (go_simp; done) | (go_simp; rfl)); intro w28 hw; have hg : wr.grownBy w28 (some go24) := (by rw [hw]; exact HP27.2); have hp_ : Kd.R (Kd.int .i64) 3 w28 w.heap.size (fun _ => True) (.slice (some ⟨go24, 0, none⟩) x10_1.length co26) y468 := (by rw [hw, Ny468.out]; exact HP27.1); clear HP27; replace BK461 := xA (blk_grown (xK BK461.out) hg (Kd.R_ne HO_10.out BK461.out (by decide))); replace HO_10 := xA (hp_); replace HB := xA ((by rw [hw]; exact below_set (HB.out) GB24.out : Below w.heap.size w w28)); clear hg hw hp_; replace hz461 := blk_cell BK461.out; replace hy461 := blk_frozen BK461.out) | (refine xG (some 50) Try.func302 #[.agg #[.int .i64 a0_0, .int .i64 a0_1, .int .i64 a0_2, .int .i64 a0_3, .bool a0_4], .int .i64 x1_1, .int .i64 a2] ?_; (with_reducible refine (spec_foStep.calls k1 a0_0 a0_1 a0_2 a0_3 a0_4 x1_1 a2 t469 _ A25.out).mono ?_); rintro e w30 ⟨rfl, hb⟩; refine ⟨_, rfl, ?_⟩; replace HO_10 := xA (Kd.R_below (xR HO_10.out) hb); replace BK461 := xkb BK461 hb; replace HB := xA (below_step (xB1 GE461.out HB.out) hb); (try clear hb)))
   go_roundg k1
   case measure => have := HK1.out; omega
   case rel => exact ⟨(t469), (y468), (wrap64 (x11_1 + 1)), xs, xs, H', ⟨by have := HK1.out; omega⟩, ⟨xR HO_10.out⟩, ⟨xK BK461.out⟩, ⟨xB1 GE461.out HB.out⟩⟩
/-! ### spec_DrawIsFirst: function 311 -/
def spec_DrawIsFirst.f (l0 : List Int) : Option (Int × Int × Int × Int × Bool) := (spec_l1Cur_first.f l0 0 0 8).bind fun bt472 => (some (bt472.1, bt472.2.1, bt472.2.2.1, bt472.2.2.2.1, bt472.2.2.2.2.1))
set_option maxHeartbeats 200000000 in
set_option maxRecDepth 100000 in
theorem spec_DrawIsFirst.calls (A0 : Option Addr) (c0 : Nat) (l0 : List Int) (r1 : Int) (r2 : Int) (r3 : Int) (r4 : Int) (r5 : Bool) (w : World) (hr0 : Kd.C (Kd.int .u8) w A0 l0.length l0) (hc0 : l0.length ≤ c0) (h : spec_DrawIsFirst.f l0 = some (r1, r2, r3, r4, r5)) :
  Calls Try.prog 311 #[.slice A0 l0.length c0] w fun e w' => e = .returned (.agg #[.int .i64 r1, .int .i64 r2, .int .i64 r3, .int .i64 r4, .bool r5]) ∧ Below w.heap.size w w' := by
 have hu62 := Try.underlying62
 have hu129 := Try.underlying129
 have HR0 := xA hr0
 have HC0 := xA hc0
 clear hr0 hc0
 have HB := xA (Below.refl w.heap.size w)
 have H : ((spec_l1Cur_first.f l0 0 0 8).bind fun bt472 => (some (bt472.1, bt472.2.1, bt472.2.2.1, bt472.2.2.2.1, bt472.2.2.2.2.1))) = some (r1, r2, r3, r4, r5) := h
 clear h
 replace H := Option.bind_eq_some_iff.mp H
 obtain ⟨⟨t472, t473, t474, t475, t476, t477, t478⟩, A20, H⟩ := H
 (try dsimp only at H)
 have A2 := xA A20
 clear A20
 simp only [Option.some.injEq, Prod.mk.injEq] at H
 obtain ⟨rfl, rfl, rfl, rfl, rfl⟩ := H
 go_enter Try.func311, Try.ntmps311
 go_wp2_with (first | (refine xg 2 rfl ?_; refine xV 2 #[.int .i64 0, .int .i64 0, .int .i64 0, .int .i64 0, .bool false] 62 ?_; intro gb470 hg w3 hbox hb; have BK470 := xA (hbox); have GW470 := xgw hg (below_size (xB HB.out)); have GE470 := GW470; replace HB := xA (below_step (xB HB.out) hb); clear hb hbox hg) | (refine xg 6 rfl ?_; refine xV 6 #[.slice A0 l0.length c0, .int .i64 0, .int .u64 0] 129 ?_; intro gb471 hg w4 hbox hb; have HI471 := xA ((show IsS129 w _ gb471 l0 0 0 from ⟨_, _, hbox, (by rw [hg]; exact (below_size (xB1 GE470.out HB.out)) : w.heap.size ≤ gb471), HR0.out⟩)); replace HB := xA (below_step (xB1 GE470.out HB.out) hb); have NB470_471 := xnl hg BK470; have NB471_470 := xng hg BK470; replace BK470 := xkb BK470 hb; clear hb hbox hg) | (refine xG (some 8) Try.func281 #[.pointer (some ⟨gb471, 0, none⟩), .int .i64 8] ?_; (with_reducible refine (spec_l1Cur_first.calls gb471 l0 0 0 8 t472 t473 t474 t475 t476 t477 t478 w _ ?side1 ?side2 A2.out).mono ?_); (case side1 => exact xJ129_12_1 NB471_470.out HI471.out); (case side2 => exact xB2 (IsS129.ge HI471.out) GE470.out HB.out); rintro e w5 ⟨rfl, hi, hb, hk⟩; refine ⟨_, rfl, ?_⟩; replace BK470 := xkk hk BK470 NB470_471; replace HB := xA (hb); replace HI471 := xA (hi); (try clear hb hk hi); have hnb6 := NB470_471.out; have hnc6 := NB471_470.out; replace hz470 := blk_cell BK470.out; replace hy470 := blk_frozen BK470.out))
 refine bodyPost_ret (results_cell_row rfl _ _ gb470 62 #[.int .i64 t472, .int .i64 t473, .int .i64 t474, .int .i64 t475, .bool t476] (0, 0) _ rfl (xPt0 BK470.out) Try.underlying62 rfl (by kernel_rfl)) rfl ?_
 exact ⟨xr, xB2 (IsS129.ge HI471.out) GE470.out HB.out⟩

/-! ### spec_DrawDeadBand: function 115 -/
def spec_DrawDeadBand.f (l0 : List Int) : Option (Int × Int × Int × Int × Bool) := (spec_DrawIsFirst.f l0).bind fun bt480 => (some (bt480.1, bt480.2.1, bt480.2.2.1, bt480.2.2.2.1, bt480.2.2.2.2))
set_option maxHeartbeats 200000000 in
set_option maxRecDepth 100000 in
theorem spec_DrawDeadBand.calls (A0 : Option Addr) (c0 : Nat) (l0 : List Int) (r1 : Int) (r2 : Int) (r3 : Int) (r4 : Int) (r5 : Bool) (w : World) (hr0 : Kd.C (Kd.int .u8) w A0 l0.length l0) (hc0 : l0.length ≤ c0) (h : spec_DrawDeadBand.f l0 = some (r1, r2, r3, r4, r5)) :
  Calls Try.prog 115 #[.slice A0 l0.length c0] w fun e w' => e = .returned (.agg #[.int .i64 r1, .int .i64 r2, .int .i64 r3, .int .i64 r4, .bool r5]) ∧ Below w.heap.size w w' := by
 have hu62 := Try.underlying62
 have HR0 := xA hr0
 have HC0 := xA hc0
 clear hr0 hc0
 have HB := xA (Below.refl w.heap.size w)
 have H : ((spec_DrawIsFirst.f l0).bind fun bt480 => (some (bt480.1, bt480.2.1, bt480.2.2.1, bt480.2.2.2.1, bt480.2.2.2.2))) = some (r1, r2, r3, r4, r5) := h
 clear h
 replace H := Option.bind_eq_some_iff.mp H
 obtain ⟨⟨t480, t481, t482, t483, t484⟩, A20, H⟩ := H
 (try dsimp only at H)
 have A2 := xA A20
 clear A20
 simp only [Option.some.injEq, Prod.mk.injEq] at H
 obtain ⟨rfl, rfl, rfl, rfl, rfl⟩ := H
 go_enter Try.func115, Try.ntmps115
 go_wp2_with (first | (refine xg 2 rfl ?_; refine xV 2 #[.int .i64 0, .int .i64 0, .int .i64 0, .int .i64 0, .bool false] 62 ?_; intro gb479 hg w3 hbox hb; have BK479 := xA (hbox); have GW479 := xgw hg (below_size (xB HB.out)); have GE479 := GW479; replace HB := xA (below_step (xB HB.out) hb); clear hb hbox hg) | (refine xG (some 4) Try.func311 #[.slice A0 l0.length c0] ?_; (with_reducible refine (spec_DrawIsFirst.calls _ _ l0 t480 t481 t482 t483 t484 _ ?side1 ?side2 A2.out).mono ?_); (case side1 => exact xC (Kd.C_below HR0.out HB.out)); (case side2 => exact HC0.out); rintro e w4 ⟨rfl, hb⟩; refine ⟨_, rfl, ?_⟩; replace BK479 := xkb BK479 hb; replace HB := xA (below_step (xB1 GE479.out HB.out) hb); (try clear hb); obtain ⟨hcz5_0, hcz5_1, hcz5_2, hcz5_3, hcz5_4, hfz5_0, hfz5_1, hfz5_2, hfz5_3, hfz5_4⟩ := xZ5 BK479.out))
 refine bodyPost_ret (results_cell_row rfl _ _ gb479 62 #[.int .i64 t480, .int .i64 t481, .int .i64 t482, .int .i64 t483, .bool t484] (0, 0) _ rfl (xPt0 BK479.out) Try.underlying62 rfl (by kernel_rfl)) rfl ?_
 exact ⟨xr, xB1 GE479.out HB.out⟩

/-! ### impl_size: function 272 -/
def impl_size.f (a0 : Int) : Option (Int) := some (mx a0 (wrap64 (-a0)))
set_option maxHeartbeats 200000000 in
set_option maxRecDepth 100000 in
theorem impl_size.calls (a0 : Int) (r : Int) (w : World) (h : impl_size.f a0 = some r) :
  Calls Try.prog 272 #[.int .i64 a0] w fun e w' => e = .returned (.int .i64 r) ∧ Below w.heap.size w w' := by
 have HB := xA (Below.refl w.heap.size w)
 have H : (some (mx a0 (wrap64 (-a0)))) = some r := h
 clear h
 obtain ⟨ji2, hji2⟩ : ∃ j_ : Int, (mx a0 (wrap64 (-a0))) = j_ := ⟨_, rfl⟩
 (first | rw [hji2] at H | simp only [hji2] at H)
 have hji2_ : (if a0 < (wrap64 (-a0)) then (wrap64 (-a0)) else a0) = ji2 := hji2
 obtain rfl := Option.some.inj H
 go_enter Try.func272, Try.ntmps272
 go_wp2
 go_ret
 exact ⟨by first | rfl | (simp [errW_none, errW_some] <;> rfl) | (simp only [← hji2]; first | rfl | (simp [errW_none, errW_some] <;> rfl)) | (simp [*, errW_none, errW_some] <;> rfl), xB HB.out⟩

/-! ### impl_peak: function 242 -/
def impl_peak.l0 : Nat → Int → List Int → Int → Int → Option (Int)
 | 0, _, _, _, _ => none
 | k + 1, x3, x6, x7, x8 => if x8 < x7 then (if 0 ≤ x8 then (if x8 < (x6.length : Int) then ((impl_size.f (rd x6 x8)).bind fun t486 => (impl_peak.l0 k (mx x3 t486) x6 x7 (wrap64 (x8 + 1)))) else (none)) else (none)) else (some x3)
def impl_peak.f (k : Nat) (l0 : List Int) : Option (Int) := impl_peak.l0 k 0 l0 (l0.length : Int) 0
theorem impl_peak.mono_l : ∀ k, (∀ y0 y1 y2 y3, LeO (impl_peak.l0 k y0 y1 y2 y3) (impl_peak.l0 (k + 1) y0 y1 y2 y3))
 | 0 => fun _ _ _ _ r h => by simp [impl_peak.l0] at h
 | k + 1 => by
  have ih0 := impl_peak.mono_l k
  intros
  unfold impl_peak.l0
  exact xM
theorem impl_peak.mono : ∀ a0 k, LeO (impl_peak.f k a0) (impl_peak.f (k + 1) a0) := by
 intro a0 k
 have ih0 := impl_peak.mono_l k
 unfold impl_peak.f
 exact xM
set_option maxHeartbeats 200000000 in
set_option maxRecDepth 100000 in
theorem impl_peak.calls (k : Nat) (A0 : Option Addr) (c0 : Nat) (l0 : List Int) (r : Int) (w : World) (hr0 : Kd.C (Kd.int .i64) w A0 l0.length l0) (hc0 : l0.length ≤ c0) (h : impl_peak.f k l0 = some r) :
  Calls Try.prog 242 #[.slice A0 l0.length c0] w fun e w' => e = .returned (.int .i64 r) ∧ Below w.heap.size w w' := by
 have HR0 := xA hr0
 have HC0 := xA hc0
 clear hr0 hc0
 have HB := xA (Below.refl w.heap.size w)
 have H : (impl_peak.l0 k 0 l0 (l0.length : Int) 0) = some r := h
 clear h
 have H' := xA H
 clear H
 go_enter Try.func242, Try.ntmps242
 go_wp2
 go_loopg [3, 8] k (fun kq v3 v8 w' => ∃ (x3_1 : Int) (x8_1 : Int), v3 = .int .i64 x3_1 ∧ v8 = .int .i64 x8_1 ∧ Aside0 (impl_peak.l0 kq x3_1 l0 (l0.length : Int) x8_1 = some r) ∧ Aside0 (kq ≤ k) ∧ Aside0 (Below w.heap.size w w'))
 case atStart => exact ⟨(0), (0), xs, xs, H', ⟨Nat.le_refl _⟩, ⟨xB HB.out⟩⟩
 case round =>
  clear H'
  obtain ⟨x3_1, x8_1, rfl, rfl, HA, HK1, HB⟩ := hrel
  cases gk with
  | zero => exact absurd HA.out (by simp [impl_peak.l0])
  | succ k1 =>
   have H := HA.out
   clear HA
   simp only [impl_peak.l0] at H
   by_cases c2 : x8_1 < (l0.length : Int)
   rotate_left
   ·rw [if_neg c2] at H
    have c2b0 : decide (x8_1 < (l0.length : Int)) = false := decide_eq_false c2
    clear c2
    obtain rfl := Option.some.inj H
    go_wp2
    go_ret
    exact ⟨xr, xB HB.out⟩

   rw [if_pos c2] at H
   have c2b0 : decide (x8_1 < (l0.length : Int)) = true := decide_eq_true c2
   clear c2
   by_cases c3 : 0 ≤ x8_1
   rotate_left
   ·rw [if_neg c3] at H
    exact absurd H (by simp)
   rw [if_pos c3] at H
   have c3b0 : decide (0 ≤ x8_1) = true := decide_eq_true c3
   clear c3
   by_cases c4 : x8_1 < (l0.length : Int)
   rotate_left
   ·rw [if_neg c4] at H
    exact absurd H (by simp)
   rw [if_pos c4] at H
   have c4b0 : decide (x8_1 < (l0.length : Int)) = true := decide_eq_true c4
   clear c4
   obtain ⟨t486, A5, H⟩ := xO H
   (try dsimp only at H)
   obtain ⟨ji6, hji6⟩ : ∃ j_ : Int, (mx x3_1 t486) = j_ := ⟨_, rfl⟩
   (first | rw [hji6] at H | simp only [hji6] at H)
   (try rw [hji6] at A5)
   have hji6_ : (if x3_1 < t486 then t486 else x3_1) = ji6 := hji6
   have H' := xA H
   clear H
   have p485 : 0 ≤ (x8_1 : Int) := of_decide_eq_true (by first | (with_reducible assumption) | assumption)
   have q485 : x8_1 < (l0.length : Int) := of_decide_eq_true (by first | (with_reducible assumption) | assumption)
   obtain ⟨ad485, e485, hx485_0⟩ := Kd.at_int HR0.out x8_1 p485 q485
   cases e485
   replace hx485_0 := (HB.out.cell (World.block_lt_of_cell? w _ hx485_0)).trans hx485_0
   replace p485 := eq_true p485
   replace q485 := eq_true q485
   go_wp2_with (first | (refine xG (some 14) Try.func272 #[.int .i64 (rd l0 x8_1)] ?_; (with_reducible refine (impl_size.calls (rd l0 x8_1) t486 _ A5.out).mono ?_); rintro e w7 ⟨rfl, hb⟩; refine ⟨_, rfl, ?_⟩; replace HB := xA (below_step (xB HB.out) hb); (try clear hb)))
   go_roundg k1
   case measure => have := HK1.out; omega
   case rel => exact ⟨(ji6), (wrap64 (x8_1 + 1)), (by first | rfl | (simp; done) | (simp only [← hji6] <;> (first | rfl | simp)) | (simp [*]; done)), xs, H', ⟨by have := HK1.out; omega⟩, ⟨xB HB.out⟩⟩
def slices_Grow_int_int.f (a1 : Int) : Option (List Int) := if 0 ≤ a1 then (if a1 ≤ 17592186044416 then some [] else none) else none
set_option maxHeartbeats 200000000 in
set_option maxRecDepth 100000 in
theorem slices_Grow_int_int.room (w : World) : Calls Try.prog 387 #[.slice none 0 0, .int .i64 0] w fun e w' => e = .returned (.slice none 0 0) ∧ w' = w := by
 have hu24 := Try.underlying24
 go_enter Try.func387, Try.ntmps387
 go_wp2
 go_ret
 exact ⟨rfl, rfl⟩
set_option maxHeartbeats 200000000 in
set_option maxRecDepth 100000 in
theorem slices_Grow_int_int.grow (n : Nat) (w : World) (h1 : 1 ≤ n) (h2 : n ≤ 17592186044416) :
  Calls Try.prog 387 #[.slice none 0 0, .int .i64 (n : Int)] w fun e w' => e = .returned (.slice (some ⟨w.heap.size, 0, none⟩) 0 (grownCap w n 0 3)) ∧ w' = w.drew.alloc (.cells (#[] ++ Builtin.zeroCells (Value.int .i64 0).cells n ++ Builtin.zeroCells (Value.int .i64 0).cells (grownCap w n 0 3 - n)) 3) := by
 have hu24 := Try.underlying24
 have q1 : ¬ ((n : Int) < 0) := by omega
 have q2 : wrap64 (n : Int) = (n : Int) := by unfold wrap64; omega
 have q3 : (n : Int) > 0 := by omega
 have q1b := decide_eq_false q1
 have q3b : decide ((n : Int) > 0) = true := decide_eq_true q3
 have hrz : ∀ ty, (Builtin.append_ #[24, 3] ty #[.slice none 0 0, .int .i64 (n : Int)]).run Try.prog w = .ok (.slice (some ⟨w.heap.size, 0, none⟩) n (grownCap w n 0 3)) (w.drew.alloc (.cells (#[] ++ Builtin.zeroCells (Value.int .i64 0).cells n ++ Builtin.zeroCells (Value.int .i64 0).cells (grownCap w n 0 3 - n)) 3)) := fun ty => by
  obtain ⟨i0, hi, hzz⟩ := Option.map_eq_some_iff.1 info3
  simp only [Prod.mk.injEq] at hzz
  obtain ⟨z0, z1, z2⟩ := hzz
  have h := Lib.run_append_grow_zeros w 24 3 ty 3 i0 (.int .i64 0) .i64 .i64 Try.underlying24 Try.underlying3 hi z0 none 0 0 [] (by rw [z1]; exact run_firstCells_none _ _ _ _ _) n (by omega) (by rw [z1]; omega) (by omega) (by omega) (by rw [z2]; omega) (by rw [z2]; exact growslice_fits (by omega) (by omega))
  rw [Nat.zero_add] at h
  exact h
 have hGn : n ≤ grownCap w n 0 3 := grownCap_ge w _ _ _
 obtain ⟨G, hG⟩ : ∃ G, G = grownCap w n 0 3 := ⟨_, rfl⟩
 rw [← hG] at hrz hGn ⊢
 have hG63 : G ≤ 9223372036854775807 := by
  have := grownCap_le_maxLen w n 0 3 (by unfold maxLen; omega)
  rw [← hG] at this
  unfold maxLen at this
  omega
 clear hG
 go_enter Try.func387, Try.ntmps387
 go_wp2_with (at_builtin; refine Lib.wpList_append_run _ rfl _ _ _ _ rfl _ _ rfl rfl _ _ (hrz _) ?_)
 all_goals (go_ret; exact ⟨rfl, rfl⟩)
theorem slices_Grow_int_int.calls (a1 : Int) (r : List Int) (w : World) (h : slices_Grow_int_int.f a1 = some r) :
  Calls Try.prog 387 #[.slice none 0 0, .int .i64 a1] w fun e w' => ∃ v0_ : Value, e = .returned (v0_) ∧ Kd.R (Kd.int .i64) 3 w' w.heap.size (fun _ => True) v0_ r ∧ Below w.heap.size w w' := by
 unfold slices_Grow_int_int.f at h
 by_cases c1 : 0 ≤ a1
 rotate_left
 ·rw [if_neg c1] at h
  exact absurd h (by simp)

 rw [if_pos c1] at h
 by_cases c2 : a1 ≤ 17592186044416
 rotate_left
 ·rw [if_neg c2] at h
  exact absurd h (by simp)
 rw [if_pos c2] at h
 obtain rfl : [] = r := Option.some.inj h
 obtain ⟨n, rfl⟩ : ∃ n : Nat, a1 = n := ⟨a1.toNat, by omega⟩
 by_cases c3 : n = 0
 ·subst c3
  refine (slices_Grow_int_int.room w).mono ?_
  rintro e w' ⟨rfl, rfl⟩
  exact ⟨_, rfl, Kd.R_nil _ _ _ _ _, Below.refl _ _⟩
 refine (slices_Grow_int_int.grow n w (by omega) (by omega)).mono ?_
 rintro e w' ⟨rfl, rfl⟩
 have hG := grownCap_ge w n 0 3
 have hM := grownCap_le_maxLen w n 0 3 (by unfold maxLen; omega)
 refine ⟨_, rfl, ⟨fun _ _ => trivial, [], ⟨rfl, .inr ⟨w.heap.size, _, _, rfl, Nat.le_refl _, blk_new _ _, Nat.zero_le _, hM, ?_, by simp⟩⟩, Reps.none _ _⟩, (below_alloc (below_drew (Below.refl _ _)) _)⟩
 simp [Builtin.zeroCells, Kd.int, Kd.scalar, Value.cells]
 omega
end Go.Proofs.Ytjplcongellcmaa.PFnFirstCycles
