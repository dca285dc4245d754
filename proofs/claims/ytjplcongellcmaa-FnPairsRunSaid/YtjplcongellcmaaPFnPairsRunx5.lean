/- What each Go function that the statement FnPairsRun reaches answers, proved call by call. No condition beyond those that the theorems print. (Written by wip/tools/xprint.py of this repo, over the kit's print.) -/
import Derived.Test.YtjplcongellcmaaPFnPairsRunx0
import Derived.Test.YtjplcongellcmaaPFnPairsRunx2
import Derived.Test.YtjplcongellcmaaPFnPairsRunx3
import Derived.Test.YtjplcongellcmaaPFnPairsRunx4
namespace Go.Proofs.Ytjplcongellcmaa.PFnPairsRun
open Go.RowKit Go.Proofs.YtjplcongellcmaaW.PrintWords Go.Proofs.YtjplcongellcmaaW.PrintLast Go.Proofs.YtjplcongellcmaaW.PrintMore
attribute [local go_sem] max2_int min2_int max_two min_two max_three min_three max_four min_four   -- for this text's walks alone
set_option linter.unusedVariables false
set_option linter.unusedSimpArgs false
def x5a0 : Array Bool := #[Zz,Zz,Zz,Zz,Zz,Zz,Zz,Zz,Zz,Zz,Zz,Zz,Zz,Zz,Zz]
def x5a1 : Array Bool := #[Zz,Yy,Zz,Zz,Zz,Zz,Zz,Zz,Zz,Zz,Zz,Zz,Zz,Zz,Zz]
def x5a2 : Array Bool := #[Zz,Yy,Yy,Zz,Zz,Zz,Zz,Zz,Zz,Zz,Zz,Zz,Zz,Zz,Zz]
def x5a3 : Array Bool := #[Zz,Yy,Yy,Zz,Zz,Yy,Zz,Zz,Zz,Zz,Zz,Zz,Zz,Zz,Zz]
def x5a4 : Array Bool := #[Zz,Yy,Yy,Zz,Zz,Yy,Yy,Zz,Zz,Zz,Zz,Zz,Zz,Zz,Zz]
def x5a5 : Array Bool := #[Zz,Yy,Yy,Zz,Zz,Yy,Yy,Zz,Zz,Yy,Zz,Zz,Zz,Zz,Zz]
def x5a6 : Array Bool := #[Yy,Yy,Yy,Zz,Zz,Yy,Yy,Zz,Zz,Yy,Zz,Zz,Zz,Zz,Zz]
def x5a7 : Array Bool := #[Yy,Yy,Yy,Yy,Zz,Yy,Yy,Zz,Zz,Yy,Zz,Zz,Zz,Zz,Zz]
def x5a8 : Array Bool := #[Yy,Yy,Yy,Yy,Zz,Yy,Yy,Yy,Zz,Yy,Zz,Zz,Zz,Zz,Zz]
def x5a9 : Array Bool := #[Yy,Yy,Yy,Yy,Yy,Yy,Yy,Yy,Zz,Yy,Zz,Zz,Zz,Zz,Zz]
def x5a10 : Array Bool := #[Yy,Yy,Yy,Yy,Yy,Yy,Yy,Yy,Yy,Yy,Zz,Zz,Zz,Zz,Zz]
def x5a11 : Array Bool := #[Yy,Yy,Yy,Yy,Yy,Yy,Yy,Yy,Yy,Yy,Yy,Zz,Zz,Zz,Zz]
def x5a12 : Array Bool := #[Yy,Yy,Yy,Yy,Yy,Yy,Yy,Yy,Yy,Yy,Yy,Yy,Zz,Zz,Zz]
def x5a13 : Array Bool := #[Yy,Yy,Yy,Yy,Yy,Yy,Yy,Yy,Yy,Yy,Yy,Yy,Yy,Zz,Zz]
def x5a14 : Array Bool := #[Yy,Yy,Yy,Yy,Yy,Yy,Yy,Yy,Yy,Yy,Yy,Yy,Yy,Yy,Zz]
def x5a15 : Array Bool := #[Yy,Yy,Yy,Yy,Yy,Yy,Yy,Yy,Yy,Yy,Yy,Yy,Yy,Yy,Yy]

/-! ### spec_DrawExactSecond: function 137 -/
def spec_DrawExactSecond.f (k : Nat) (l0 : List Int) : Option (Int × Int × Int × Int × Int × Bool × Int × Int × List Int) := (spec_l1Cur_second.f k l0 0 0 8).bind fun bt272 => ((spec_l1Cur_inWord.f k l0 bt272.2.2.2.2.2.2.1 bt272.2.2.2.2.2.2.2 bt272.2.2.2.2.1 bt272.2.2.2.2.2.1).bind fun bt281 => ((spec_l1Cur_inWord.f k l0 bt281.2.1 bt281.2.2 bt272.2.2.2.2.1 bt272.2.2.2.2.2.1).bind fun bt284 => ((spec_l1Cur_signal.f k l0 bt284.2.1 bt284.2.2 6 9).bind fun bt287 => (some (bt272.1, bt272.2.1, bt272.2.2.1, bt272.2.2.2.1, bt272.2.2.2.2.1, bt272.2.2.2.2.2.1, bt281.1, bt284.1, bt287.1)))))
theorem spec_DrawExactSecond.mono : ∀ a0 k, LeO (spec_DrawExactSecond.f k a0) (spec_DrawExactSecond.f (k + 1) a0) := by
 intro a0 k
 have m0 := @spec_l1Cur_inWord.mono
 have m1 := @spec_l1Cur_second.mono
 have m2 := @spec_l1Cur_signal.mono
 unfold spec_DrawExactSecond.f
 exact xM
def spec_DrawExactSecond.T3 : Bool × List (List Nat × List Nat) := (true, [([], []), ([], []), ([], []), ([2], [2]), ([1, 3], [1, 3]), ([], []), ([], []), ([6], [6]), ([5, 7, 4], [5, 7]), ([], []), ([9, 8], [9]), ([0, 10, 0], [0]), ([4, 11, 0, 1, 2, 3, 4, 11], [4]), ([8, 12, 0, 1, 2, 3, 4, 5, 6, 7, 8, 11, 12], [8]), ([10, 13, 0, 1, 2, 3, 4, 5, 6, 7, 8, 9, 10, 11, 12, 13], [10])])
def spec_DrawExactSecond.B3 : List Nat := [0, 0, 0, 4, 14, 0, 0, 64, 254, 0, 1022, 2047, 4095, 8191, 16383]
theorem spec_DrawExactSecond.tab3 : rtab .any (opsOf Try.f137 3) = spec_DrawExactSecond.T3 := by kernel_rfl
theorem spec_DrawExactSecond.bits3 : waitsOk spec_DrawExactSecond.T3.2 spec_DrawExactSecond.B3 = true := by kernel_rfl
set_option maxHeartbeats 200000000 in
set_option maxRecDepth 100000 in
theorem spec_DrawExactSecond.calls (k : Nat) (A0 : Option Addr) (c0 : Nat) (l0 : List Int) (r1 : Int) (r2 : Int) (r3 : Int) (r4 : Int) (r5 : Int) (r6 : Bool) (r7 : Int) (r8 : Int) (r9 : List Int) (w : World) (hr0 : Kd.C (Kd.int .u8) w A0 l0.length l0) (hc0 : l0.length ≤ c0) (h : spec_DrawExactSecond.f k l0 = some (r1, r2, r3, r4, r5, r6, r7, r8, r9)) :
  Calls Try.prog 137 #[.slice A0 l0.length c0] w fun e w' => ∃ v8_ : Value, e = .returned (.tuple #[.agg #[.int .i64 r1, .int .i64 r2, .int .i64 r3, .int .i64 r4, .int .i64 r5, .bool r6], .int .i64 r7, .int .i64 r8, v8_]) ∧ Kd.R (Kd.int .i64) 3 w' w.heap.size (fun _ => True) v8_ r9 ∧ Below w.heap.size w w' := by
 have hu91 := Try.underlying91
 have hu129 := Try.underlying129
 have hu46 := Try.underlying46
 have HR0 := xA hr0
 have HC0 := xA hc0
 clear hr0 hc0
 have HB := xA (Below.refl w.heap.size w)
 have H : ((spec_l1Cur_second.f k l0 0 0 8).bind fun bt272 => ((spec_l1Cur_inWord.f k l0 bt272.2.2.2.2.2.2.1 bt272.2.2.2.2.2.2.2 bt272.2.2.2.2.1 bt272.2.2.2.2.2.1).bind fun bt281 => ((spec_l1Cur_inWord.f k l0 bt281.2.1 bt281.2.2 bt272.2.2.2.2.1 bt272.2.2.2.2.2.1).bind fun bt284 => ((spec_l1Cur_signal.f k l0 bt284.2.1 bt284.2.2 6 9).bind fun bt287 => (some (bt272.1, bt272.2.1, bt272.2.2.1, bt272.2.2.2.1, bt272.2.2.2.2.1, bt272.2.2.2.2.2.1, bt281.1, bt284.1, bt287.1)))))) = some (r1, r2, r3, r4, r5, r6, r7, r8, r9) := h
 clear h
 replace H := Option.bind_eq_some_iff.mp H
 obtain ⟨⟨t272, t273, t274, t275, t276, t277, t278, t279⟩, A20, H⟩ := H
 (try dsimp only at H)
 have A2 := xA A20
 clear A20
 replace H := Option.bind_eq_some_iff.mp H
 obtain ⟨⟨t281, t282, t283⟩, A30, H⟩ := H
 (try dsimp only at H)
 have A3 := xA A30
 clear A30
 replace H := Option.bind_eq_some_iff.mp H
 obtain ⟨⟨t284, t285, t286⟩, A40, H⟩ := H
 (try dsimp only at H)
 have A4 := xA A40
 clear A40
 replace H := Option.bind_eq_some_iff.mp H
 obtain ⟨⟨t287, t290, t291⟩, A50, H⟩ := H
 (try dsimp only at H)
 have A5 := xA A50
 clear A50
 simp only [Option.some.injEq, Prod.mk.injEq] at H
 obtain ⟨rfl, rfl, rfl, rfl, rfl, rfl, rfl, rfl, rfl⟩ := H
 go_enter Try.func137, Try.ntmps137
 try go_wp2_with (first | (refine xg 2 rfl ?_; refine xV 2 #[.int .i64 0, .int .i64 0, .int .i64 0, .int .i64 0, .int .i64 0, .bool false] 91 ?_; intro gb270 hg w6 hbox hb; have BK270 := xA (hbox); have GW270 := xgw hg (below_size (xB HB.out)); have GE270 := GW270; replace HB := xA (below_step (xB HB.out) hb); clear hb hbox hg) | (refine xg 10 rfl ?_; refine xV 10 #[.slice A0 l0.length c0, .int .i64 0, .int .u64 0] 129 ?_; intro gb271 hg w7 hbox hb; have HI271 := xA ((show IsS129 w _ gb271 l0 0 0 from ⟨_, _, hbox, (by rw [hg]; exact (below_size (xB1 GE270.out HB.out)) : w.heap.size ≤ gb271), HR0.out⟩)); replace HB := xA (below_step (xB1 GE270.out HB.out) hb); have NB270_271 := xnl hg BK270; have NB271_270 := xng hg BK270; replace BK270 := xkb BK270 hb; clear hb hbox hg) | (refine xG (some 12) Try.func335 #[.pointer (some ⟨gb271, 0, none⟩), .int .i64 8] ?_; (with_reducible refine (spec_l1Cur_second.calls k gb271 l0 0 0 8 t272 t273 t274 t275 t276 t277 t278 t279 w _ ?side1 ?side2 A2.out).mono ?_); (case side1 => exact xJ129_12_1 NB271_270.out HI271.out); (case side2 => exact xB2 (IsS129.ge HI271.out) GE270.out HB.out); rintro e w8 ⟨rfl, hi, hb, hk⟩; refine ⟨_, rfl, ?_⟩; replace BK270 := xkk hk BK270 NB270_271; replace HB := xA (hb); replace HI271 := xA (hi); (try clear hb hk hi)) | (refine xg 7 rfl ?_; refine xV 7 #[.int .i64 0, .int .i64 0, .int .i64 0, .int .i64 0, .int .i64 0, .bool false] 91 ?_; intro gb280 hg w9 hbox hb; have BK280 := xA (hbox); have GW280 := xgw hg (below_size (xB2 (IsS129.ge HI271.out) GE270.out HB.out)); have GE280 := GW280; replace HB := xA (below_step (xB2 (IsS129.ge HI271.out) GE270.out HB.out) hb); have NB270_280 := xnl hg BK270; have NB280_270 := xng hg BK270; replace BK270 := xkb BK270 hb; have NB271_280 := xA ((by rw [hg]; exact Nat.ne_of_lt (IsS129.lt (show IsS129 w _ gb271 l0 t278 t279 from xJ129_12_1 NB271_270.out HI271.out)) : gb271 ≠ gb280)); have NB280_271 := xA ((by rw [hg]; exact Nat.ne_of_gt (IsS129.lt (show IsS129 w _ gb271 l0 t278 t279 from xJ129_12_1 NB271_270.out HI271.out)) : gb280 ≠ gb271)); replace HI271 := xA (IsS129.below (xJ129_12_1 NB271_270.out HI271.out) hb); clear hb hbox hg; have hnb10 := NB280_270.out; have hnc10 := NB270_280.out; have hnb11 := NB280_271.out; have hnc11 := NB271_280.out; obtain ⟨hcz12_0, hcz12_1, hcz12_2, hcz12_3, hcz12_4, hcz12_5, hfz12_0, hfz12_1, hfz12_2, hfz12_3, hfz12_4, hfz12_5⟩ := xZ6 BK280.out))
 have n0_ : Aside0 (((((((w9.setCell ⟨gb280, 0, none⟩ (.int .i64 t272)).setCell ⟨gb280, 1, none⟩ (.int .i64 t273)).setCell ⟨gb280, 2, none⟩ (.int .i64 t274)).setCell ⟨gb280, 3, none⟩ (.int .i64 t275)).setCell ⟨gb280, 4, none⟩ (.int .i64 t276)).setCell ⟨gb280, 5, none⟩ (.bool t277)).heap[gb270]? = some (.cells #[.int .i64 0, .int .i64 0, .int .i64 0, .int .i64 0, .int .i64 0, .bool false] 91 (0, 0))) := ⟨by (with_reducible repeat (first | refine blk_drewN ?_ _ | refine blk_drew ?_ | refine blk_alloc ?_ _)); refine blk_far ?_ NB270_280.out _; (with_reducible repeat (first | refine blk_drewN ?_ _ | refine blk_drew ?_ | refine blk_alloc ?_ _)); refine blk_far ?_ NB270_280.out _; (with_reducible repeat (first | refine blk_drewN ?_ _ | refine blk_drew ?_ | refine blk_alloc ?_ _)); refine blk_far ?_ NB270_280.out _; (with_reducible repeat (first | refine blk_drewN ?_ _ | refine blk_drew ?_ | refine blk_alloc ?_ _)); refine blk_far ?_ NB270_280.out _; (with_reducible repeat (first | refine blk_drewN ?_ _ | refine blk_drew ?_ | refine blk_alloc ?_ _)); refine blk_far ?_ NB270_280.out _; (with_reducible repeat (first | refine blk_drewN ?_ _ | refine blk_drew ?_ | refine blk_alloc ?_ _)); refine blk_far ?_ NB270_280.out _; (with_reducible repeat (first | refine blk_drewN ?_ _ | refine blk_drew ?_ | refine blk_alloc ?_ _)); exact BK270.out⟩
 have n1_ : Aside0 (((((((w9.setCell ⟨gb280, 0, none⟩ (.int .i64 t272)).setCell ⟨gb280, 1, none⟩ (.int .i64 t273)).setCell ⟨gb280, 2, none⟩ (.int .i64 t274)).setCell ⟨gb280, 3, none⟩ (.int .i64 t275)).setCell ⟨gb280, 4, none⟩ (.int .i64 t276)).setCell ⟨gb280, 5, none⟩ (.bool t277)).heap[gb280]? = some (.cells #[.int .i64 t272, .int .i64 t273, .int .i64 t274, .int .i64 t275, .int .i64 t276, .bool t277] 91 (0, 0))) := ⟨by (with_reducible repeat (first | refine blk_drewN ?_ _ | refine blk_drew ?_ | refine blk_alloc ?_ _)); refine blk_put (cs := #[.int .i64 t272, .int .i64 t273, .int .i64 t274, .int .i64 t275, .int .i64 t276, .bool false]) ?_ 5 _ rfl; (with_reducible repeat (first | refine blk_drewN ?_ _ | refine blk_drew ?_ | refine blk_alloc ?_ _)); refine blk_put (cs := #[.int .i64 t272, .int .i64 t273, .int .i64 t274, .int .i64 t275, .int .i64 0, .bool false]) ?_ 4 _ rfl; (with_reducible repeat (first | refine blk_drewN ?_ _ | refine blk_drew ?_ | refine blk_alloc ?_ _)); refine blk_put (cs := #[.int .i64 t272, .int .i64 t273, .int .i64 t274, .int .i64 0, .int .i64 0, .bool false]) ?_ 3 _ rfl; (with_reducible repeat (first | refine blk_drewN ?_ _ | refine blk_drew ?_ | refine blk_alloc ?_ _)); refine blk_put (cs := #[.int .i64 t272, .int .i64 t273, .int .i64 0, .int .i64 0, .int .i64 0, .bool false]) ?_ 2 _ rfl; (with_reducible repeat (first | refine blk_drewN ?_ _ | refine blk_drew ?_ | refine blk_alloc ?_ _)); refine blk_put (cs := #[.int .i64 t272, .int .i64 0, .int .i64 0, .int .i64 0, .int .i64 0, .bool false]) ?_ 1 _ rfl; (with_reducible repeat (first | refine blk_drewN ?_ _ | refine blk_drew ?_ | refine blk_alloc ?_ _)); refine blk_put (cs := #[.int .i64 0, .int .i64 0, .int .i64 0, .int .i64 0, .int .i64 0, .bool false]) ?_ 0 _ rfl; (with_reducible repeat (first | refine blk_drewN ?_ _ | refine blk_drew ?_ | refine blk_alloc ?_ _)); exact BK280.out⟩
 have n2_ : Aside0 (IsS129 w ((((((w9.setCell ⟨gb280, 0, none⟩ (.int .i64 t272)).setCell ⟨gb280, 1, none⟩ (.int .i64 t273)).setCell ⟨gb280, 2, none⟩ (.int .i64 t274)).setCell ⟨gb280, 3, none⟩ (.int .i64 t275)).setCell ⟨gb280, 4, none⟩ (.int .i64 t276)).setCell ⟨gb280, 5, none⟩ (.bool t277)) gb271 l0 t278 t279) := ⟨xJ129_12_2 NB271_270.out NB271_280.out HI271.out⟩
 have n3_ : Aside0 (Below w.heap.size w ((((((w9.setCell ⟨gb280, 0, none⟩ (.int .i64 t272)).setCell ⟨gb280, 1, none⟩ (.int .i64 t273)).setCell ⟨gb280, 2, none⟩ (.int .i64 t274)).setCell ⟨gb280, 3, none⟩ (.int .i64 t275)).setCell ⟨gb280, 4, none⟩ (.int .i64 t276)).setCell ⟨gb280, 5, none⟩ (.bool t277))) := ⟨xB3 (IsS129.ge HI271.out) GE270.out GE280.out HB.out⟩
 (try clear BK270)
 (try clear BK280)
 (try clear HI271)
 (try clear HB)
 generalize ((((((w9.setCell ⟨gb280, 0, none⟩ (.int .i64 t272)).setCell ⟨gb280, 1, none⟩ (.int .i64 t273)).setCell ⟨gb280, 2, none⟩ (.int .i64 t274)).setCell ⟨gb280, 3, none⟩ (.int .i64 t275)).setCell ⟨gb280, 4, none⟩ (.int .i64 t276)).setCell ⟨gb280, 5, none⟩ (.bool t277)) = w13 at n0_ n1_ n2_ n3_ ⊢
 have BK270 := n0_
 have BK280 := n1_
 have HI271 := n2_
 have HB := n3_
 clear n0_ n1_ n2_ n3_
 replace BK270 := xA (blk_drew BK270.out)
 replace BK280 := xA (blk_drew BK280.out)
 replace HI271 := xA (IsS129.drew HI271.out)
 replace HB := xA (below_drew1 HB.out)
 refine start_ (n := 15) (S := fun w' => w'.cell? ⟨gb280, 0, none⟩ = some (.int .i64 t272) ∧ w'.cell? ⟨gb280, 1, none⟩ = some (.int .i64 t273) ∧ w'.cell? ⟨gb280, 2, none⟩ = some (.int .i64 t274) ∧ w'.cell? ⟨gb280, 3, none⟩ = some (.int .i64 t275) ∧ w'.cell? ⟨gb280, 4, none⟩ = some (.int .i64 t276) ∧ w'.cell? ⟨gb280, 5, none⟩ = some (.bool t277)) (ds := []) x5a0 (by kernel_rfl) rfl rfl ⟨(blk_cell BK280.out 0).trans rfl, (blk_cell BK280.out 1).trans rfl, (blk_cell BK280.out 2).trans rfl, (blk_cell BK280.out 3).trans rfl, (blk_cell BK280.out 4).trans rfl, (blk_cell BK280.out 5).trans rfl⟩ (fun hHeld => ?_); refine with_tabW spec_DrawExactSecond.tab3 spec_DrawExactSecond.bits3 (fun HT_ HW_ => ?_)
 generalize w13.drew = w14 at BK270 BK280 HI271 HB hHeld ⊢
 refine xP 1 14 x5a1 ?_
 refine xP 2 15 x5a2 ?_
 refine xP 5 18 x5a3 ?_
 refine xP 6 19 x5a4 ?_
 refine xP 9 22 x5a5 ?_
 refine xT6 hHeld 0 13 x5a6 ?_
 refine xT6 hHeld 3 16 x5a7 ?_
 refine xT6 hHeld 7 20 x5a8 ?_
 refine xU 4 17 x5a9 (fun K hK => ?_)
 refine xY Try.func282 #[.pointer (some ⟨gb271, 0, none⟩), .agg #[.int .i64 t276, .bool t277]] ?_
 with_reducible refine (spec_l1Cur_inWord.calls k gb271 l0 t278 t279 t276 t277 t281 t282 t283 w _ ?side1 ?side2 A3.out).mono ?_
 (case side1 => exact xJ129_12_2 NB271_270.out NB271_280.out HI271.out)
 (case side2 => exact xB3 (IsS129.ge HI271.out) GE270.out GE280.out HB.out)
 rintro e w15 ⟨rfl, hi, hb, hk⟩
 refine ⟨_, rfl, ?_⟩
 replace BK270 := xkk hk BK270 NB270_271
 replace BK280 := xkk hk BK280 NB280_271
 replace HB := xA (hb)
 replace HI271 := xA (hi)
 (try clear hb); (try clear hb2); (try clear hk); (try clear hi)
 refine hK.out _ _ ⟨(blk_cell BK280.out 0).trans rfl, (blk_cell BK280.out 1).trans rfl, (blk_cell BK280.out 2).trans rfl, (blk_cell BK280.out 3).trans rfl, (blk_cell BK280.out 4).trans rfl, (blk_cell BK280.out 5).trans rfl⟩ (fun hHeld => ?_)
 clear hK K
 refine xN ?_
 refine xU 8 21 x5a10 (fun K hK => ?_)
 refine xY Try.func282 #[.pointer (some ⟨gb271, 0, none⟩), .agg #[.int .i64 t276, .bool t277]] ?_
 with_reducible refine (spec_l1Cur_inWord.calls k gb271 l0 t282 t283 t276 t277 t284 t285 t286 w _ ?side1 ?side2 A4.out).mono ?_
 (case side1 => exact xJ129_12_2 NB271_270.out NB271_280.out HI271.out)
 (case side2 => exact xB3 (IsS129.ge HI271.out) GE270.out GE280.out HB.out)
 rintro e w16 ⟨rfl, hi, hb, hk⟩
 refine ⟨_, rfl, ?_⟩
 replace BK270 := xkk hk BK270 NB270_271
 replace BK280 := xkk hk BK280 NB280_271
 replace HB := xA (hb)
 replace HI271 := xA (hi)
 (try clear hb); (try clear hb2); (try clear hk); (try clear hi)
 refine hK.out _ _ ⟨(blk_cell BK280.out 0).trans rfl, (blk_cell BK280.out 1).trans rfl, (blk_cell BK280.out 2).trans rfl, (blk_cell BK280.out 3).trans rfl, (blk_cell BK280.out 4).trans rfl, (blk_cell BK280.out 5).trans rfl⟩ (fun hHeld => ?_)
 clear hK K
 refine xN ?_
 refine xU 10 23 x5a11 (fun K hK => ?_)
 refine xY Try.func214 #[.pointer (some ⟨gb271, 0, none⟩), .int .i64 6, .int .i64 9] ?_
 with_reducible refine (spec_l1Cur_signal.calls k gb271 l0 t285 t286 6 9 t287 t290 t291 w _ ?side1 ?side2 A5.out).mono ?_
 (case side1 => exact xJ129_12_2 NB271_270.out NB271_280.out HI271.out)
 (case side2 => exact xB3 (IsS129.ge HI271.out) GE270.out GE280.out HB.out)
 rintro e w17 ⟨v288, rfl, ho0, hi, hb, hk⟩
 refine ⟨_, rfl, ?_⟩
 replace BK270 := xkk hk BK270 NB270_271
 replace BK280 := xkk hk BK280 NB280_271
 have HO289 := xA (Kd.R_lower ho0 (below_size (xB3 (IsS129.ge HI271.out) GE270.out GE280.out HB.out)))
 replace HB := xA (hb)
 replace HI271 := xA (hi)
 (try clear hb); (try clear hb2); (try clear hk); (try clear hi)
 (try clear ho0)
 refine hK.out _ _ ⟨(blk_cell BK280.out 0).trans rfl, (blk_cell BK280.out 1).trans rfl, (blk_cell BK280.out 2).trans rfl, (blk_cell BK280.out 3).trans rfl, (blk_cell BK280.out 4).trans rfl, (blk_cell BK280.out 5).trans rfl⟩ (fun hHeld => ?_)
 clear hK K
 refine xN ?_
 refine one_ (i := 11) (N := none) x5a12 rfl rfl (one_of HT_.out (by kernel_rfl)) (by decide) (fun K hK => ?_)
 have hs18 : w17.cell? ⟨gb270, 0, none⟩ = some (.int .i64 0) := (blk_cell BK270.out 0).trans rfl
 have hfs18 := blk_frozen BK270.out 0
 have hns18_1 := NB280_270.out
 have hms18_1 := NB270_280.out
 have hs19 : w17.cell? ⟨gb270, 1, none⟩ = some (.int .i64 0) := (blk_cell BK270.out 1).trans rfl
 have hfs19 := blk_frozen BK270.out 1
 have hns19_1 := NB280_270.out
 have hms19_1 := NB270_280.out
 have hs20 : w17.cell? ⟨gb270, 2, none⟩ = some (.int .i64 0) := (blk_cell BK270.out 2).trans rfl
 have hfs20 := blk_frozen BK270.out 2
 have hns20_1 := NB280_270.out
 have hms20_1 := NB270_280.out
 have hs21 : w17.cell? ⟨gb270, 3, none⟩ = some (.int .i64 0) := (blk_cell BK270.out 3).trans rfl
 have hfs21 := blk_frozen BK270.out 3
 have hns21_1 := NB280_270.out
 have hms21_1 := NB270_280.out
 have hs22 : w17.cell? ⟨gb270, 4, none⟩ = some (.int .i64 0) := (blk_cell BK270.out 4).trans rfl
 have hfs22 := blk_frozen BK270.out 4
 have hns22_1 := NB280_270.out
 have hms22_1 := NB270_280.out
 have hs23 : w17.cell? ⟨gb270, 5, none⟩ = some (.bool false) := (blk_cell BK270.out 5).trans rfl
 have hfs23 := blk_frozen BK270.out 5
 have hns23_1 := NB280_270.out
 have hms23_1 := NB270_280.out
 refine skip_ (w1 := ?_) (by rfl) rfl ?_ ?_
 rotate_left
 ·go_simp
  rfl
 refine hK.out _ _ ⟨(xCf1 NB280_270.out hHeld.1), (xCf1 NB280_270.out hHeld.2.1), (xCf1 NB280_270.out hHeld.2.2.1), (xCf1 NB280_270.out hHeld.2.2.2.1), (xCf1 NB280_270.out hHeld.2.2.2.2.1), (xCf1 NB280_270.out hHeld.2.2.2.2.2)⟩ (fun hHeld => ?_)
 clear hK K
 refine xP 12 3 x5a13 ?_
 refine xP 13 4 x5a14 ?_
 refine xP 14 5 x5a15 ?_
 refine xDn ?_
 try go_wp2
 refine bodyPost_ret (results_list (rs := [.cell 2 91, .tmp 3, .tmp 4, .tmp 5]) rfl (by simp) (.cell gb270 91 #[.int .i64 t272, .int .i64 t273, .int .i64 t274, .int .i64 t275, .int .i64 t276, .bool t277] (0, 0) _ rfl (xPt0 BK270.out) Try.underlying91 rfl (by kernel_rfl) (.tmp (.tmp (.tmp .nil))))) rfl ?_
 exact ⟨_, xr, by (with_reducible repeat (first | apply Kd.R_alloc | apply Kd.R_drewN | apply Kd.R_drew)); exact Kd.R_mono (Kd.R_far (p := ⟨gb270, 5, none⟩) (Kd.R_far (p := ⟨gb270, 4, none⟩) (Kd.R_far (p := ⟨gb270, 3, none⟩) (Kd.R_far (p := ⟨gb270, 2, none⟩) (Kd.R_far (p := ⟨gb270, 1, none⟩) (Kd.R_far (p := ⟨gb270, 0, none⟩) (Kd.R_types HO289.out BK270.out (by decide)) (fun _ hk => hk.2) (.int .i64 t272)) (fun _ hk => hk.2) (.int .i64 t273)) (fun _ hk => hk.2) (.int .i64 t274)) (fun _ hk => hk.2) (.int .i64 t275)) (fun _ hk => hk.2) (.int .i64 t276)) (fun _ hk => hk.2) (.bool t277)) (fun _ hk => trivial), xB3 (IsS129.ge HI271.out) GE270.out GE280.out HB.out⟩

/-! ### impl_isSignal_c1: function 370 -/
def impl_isSignal_c1.f (a0 : Int) : Option (Bool) := (impl_in.f a0 (-100000) 100000).bind fun t292 => (some (!t292))
set_option maxHeartbeats 200000000 in
set_option maxRecDepth 100000 in
theorem impl_isSignal_c1.calls (a0 : Int) (r : Bool) (w : World) (h : impl_isSignal_c1.f a0 = some r) :
  Calls Try.prog 370 #[.int .i64 a0] w fun e w' => e = .returned (.bool r) ∧ Drawn0 w w' := by
 have H : ((impl_in.f a0 (-100000) 100000).bind fun t292 => (some (!t292))) = some r := h
 clear h
 obtain ⟨t292, A2, H⟩ := xO H
 (try dsimp only at H)
 obtain rfl := Option.some.inj H
 go_enter Try.func370, Try.ntmps370
 go_wp2_with (first | (refine xG (some 4) Try.func223 #[.int .i64 a0, .int .i64 (-100000), .int .i64 100000] ?_; (with_reducible refine (impl_in.calls a0 (-100000) 100000 t292 _ A2.out).mono ?_); rintro e w' ⟨rfl, ⟨nd, rfl⟩⟩; refine ⟨_, rfl, ?_⟩))
 go_ret
 exact ⟨by first | rfl | (simp; done) | (simp [*]; done), by repeat (first | exact Drawn0.refl _ | apply Drawn0.step)⟩

/-! ### slices_IndexFunc_int_int_impl_isSignal_c1: function 423 -/
def slices_IndexFunc_int_int_impl_isSignal_c1.l0 : Nat → List Int → Int → Int → Option (Int)
 | 0, _, _, _ => none
 | k + 1, x0, x7, x8 => if x8 < x7 then (if 0 ≤ x8 then (if x8 < (x0.length : Int) then ((impl_isSignal_c1.f (rd x0 x8)).bind fun t294 => (if t294 = true then (some x8) else (slices_IndexFunc_int_int_impl_isSignal_c1.l0 k x0 x7 (wrap64 (x8 + 1))))) else (none)) else (none)) else (some (-1))
def slices_IndexFunc_int_int_impl_isSignal_c1.f (k : Nat) (l0 : List Int) : Option (Int) := slices_IndexFunc_int_int_impl_isSignal_c1.l0 k l0 (l0.length : Int) 0
theorem slices_IndexFunc_int_int_impl_isSignal_c1.mono_l : ∀ k, (∀ y0 y1 y2, LeO (slices_IndexFunc_int_int_impl_isSignal_c1.l0 k y0 y1 y2) (slices_IndexFunc_int_int_impl_isSignal_c1.l0 (k + 1) y0 y1 y2))
 | 0 => fun _ _ _ r h => by simp [slices_IndexFunc_int_int_impl_isSignal_c1.l0] at h
 | k + 1 => by
  have ih0 := slices_IndexFunc_int_int_impl_isSignal_c1.mono_l k
  intros
  unfold slices_IndexFunc_int_int_impl_isSignal_c1.l0
  exact xM
theorem slices_IndexFunc_int_int_impl_isSignal_c1.mono : ∀ a0 k, LeO (slices_IndexFunc_int_int_impl_isSignal_c1.f k a0) (slices_IndexFunc_int_int_impl_isSignal_c1.f (k + 1) a0) := by
 intro a0 k
 have ih0 := slices_IndexFunc_int_int_impl_isSignal_c1.mono_l k
 unfold slices_IndexFunc_int_int_impl_isSignal_c1.f
 exact xM
set_option maxHeartbeats 200000000 in
set_option maxRecDepth 100000 in
theorem slices_IndexFunc_int_int_impl_isSignal_c1.calls (k : Nat) (A0 : Option Addr) (c0 : Nat) (l0 : List Int) (r : Int) (w : World) (hr0 : Kd.C (Kd.int .i64) w A0 l0.length l0) (hc0 : l0.length ≤ c0) (h : slices_IndexFunc_int_int_impl_isSignal_c1.f k l0 = some r) :
  Calls Try.prog 398 #[.slice A0 l0.length c0, .func (.func 370) #[] #[]] w fun e w' => e = .returned (.int .i64 r) ∧ Drawn0 w w' := by
 have HR0 := xA hr0
 have HC0 := xA hc0
 clear hr0 hc0
 have H : (slices_IndexFunc_int_int_impl_isSignal_c1.l0 k l0 (l0.length : Int) 0) = some r := h
 clear h
 have H' := xA H
 clear H
 go_enter Try.func398, Try.ntmps398
 go_wp2
 go_loopg [8] k (fun kq v8 w' => ∃ (x8_1 : Int), v8 = .int .i64 x8_1 ∧ Aside0 (slices_IndexFunc_int_int_impl_isSignal_c1.l0 kq l0 (l0.length : Int) x8_1 = some r) ∧ Aside0 (kq ≤ k) ∧ Drawn0 w w')
 case atStart => exact ⟨(0), xs, H', ⟨Nat.le_refl _⟩, by repeat (first | exact Drawn0.refl _ | apply Drawn0.step)⟩
 case round =>
  clear H'
  obtain ⟨x8_1, rfl, HA, HK1, ⟨m1, rfl⟩⟩ := hrel
  cases gk with
  | zero => exact absurd HA.out (by simp [slices_IndexFunc_int_int_impl_isSignal_c1.l0])
  | succ k1 =>
   have H := HA.out
   clear HA
   simp only [slices_IndexFunc_int_int_impl_isSignal_c1.l0] at H
   by_cases c2 : x8_1 < (l0.length : Int)
   rotate_left
   ·rw [if_neg c2] at H
    have c2b0 : decide (x8_1 < (l0.length : Int)) = false := decide_eq_false c2
    clear c2
    obtain rfl := Option.some.inj H
    go_wp2
    go_ret
    exact ⟨by first | rfl | (simp; done) | (simp [*]; done), by repeat (first | exact Drawn0.refl _ | apply Drawn0.step)⟩

   rw [if_pos c2] at H
   have c2b0 : decide (x8_1 < (l0.length : Int)) = true := decide_eq_true c2
   clear c2
   by_cases c3 : 0 ≤ x8_1
   rotate_left
   ·rw [if_neg c3] at H
    exact absurd H (by simp)
   rw [if_pos c3] at H
   have c3b0 : decide (0 ≤ x8_1) = true := decide_eq_true c3
   clear c3
   by_cases c4 : x8_1 < (l0.length : Int)
   rotate_left
   ·rw [if_neg c4] at H
    exact absurd H (by simp)
   rw [if_pos c4] at H
   have c4b0 : decide (x8_1 < (l0.length : Int)) = true := decide_eq_true c4
   clear c4
   obtain ⟨t294, A5, H⟩ := xO H
   (try dsimp only at H)
   by_cases c6 : t294 = true
   ·subst c6
    rw [if_pos rfl] at H
    obtain rfl := Option.some.inj H
    have p293 : 0 ≤ (x8_1 : Int) := of_decide_eq_true (by first | (with_reducible assumption) | assumption)
    have q293 : x8_1 < (l0.length : Int) := of_decide_eq_true (by first | (with_reducible assumption) | assumption)
    obtain ⟨ad293, e293, hx293_0⟩ := Kd.at_int HR0.out x8_1 p293 q293
    cases e293
    replace p293 := eq_true p293
    replace q293 := eq_true q293
    go_wp2_with (first | (go_at_call 370; (with_reducible refine (impl_isSignal_c1.calls (rd l0 x8_1) true _ A5.out).mono ?_); rintro e w' ⟨rfl, ⟨nd, rfl⟩⟩))
    go_ret
    exact ⟨by first | rfl | (simp; done) | (simp [*]; done), by repeat (first | exact Drawn0.refl _ | apply Drawn0.step)⟩
   replace c6 := Bool.eq_false_iff.mpr c6
   subst c6
   rw [if_neg (show ¬ (false = true) by decide)] at H
   have H' := xA H
   clear H
   have p293 : 0 ≤ (x8_1 : Int) := of_decide_eq_true (by first | (with_reducible assumption) | assumption)
   have q293 : x8_1 < (l0.length : Int) := of_decide_eq_true (by first | (with_reducible assumption) | assumption)
   obtain ⟨ad293, e293, hx293_0⟩ := Kd.at_int HR0.out x8_1 p293 q293
   cases e293
   replace p293 := eq_true p293
   replace q293 := eq_true q293
   go_wp2_with (first | (go_at_call 370; (with_reducible refine (impl_isSignal_c1.calls (rd l0 x8_1) false _ A5.out).mono ?_); rintro e w' ⟨rfl, ⟨nd, rfl⟩⟩))
   go_roundg k1
   case measure => have := HK1.out; omega
   case rel => exact ⟨(wrap64 (x8_1 + 1)), xs, H', ⟨by have := HK1.out; omega⟩, by repeat (first | exact Drawn0.refl _ | apply Drawn0.step)⟩
/-! ### slices_ContainsFunc_int_int_impl_isSignal_c1: function 422 -/
def slices_ContainsFunc_int_int_impl_isSignal_c1.f (k : Nat) (l0 : List Int) : Option (Bool) := (slices_IndexFunc_int_int_impl_isSignal_c1.f k l0).bind fun t295 => (some (decide (t295 ≥ 0)))
theorem slices_ContainsFunc_int_int_impl_isSignal_c1.mono : ∀ a0 k, LeO (slices_ContainsFunc_int_int_impl_isSignal_c1.f k a0) (slices_ContainsFunc_int_int_impl_isSignal_c1.f (k + 1) a0) := by
 intro a0 k
 have m0 := @slices_IndexFunc_int_int_impl_isSignal_c1.mono
 unfold slices_ContainsFunc_int_int_impl_isSignal_c1.f
 exact xM
set_option maxHeartbeats 200000000 in
set_option maxRecDepth 100000 in
theorem slices_ContainsFunc_int_int_impl_isSignal_c1.calls (k : Nat) (A0 : Option Addr) (c0 : Nat) (l0 : List Int) (r : Bool) (w : World) (hr0 : Kd.C (Kd.int .i64) w A0 l0.length l0) (hc0 : l0.length ≤ c0) (h : slices_ContainsFunc_int_int_impl_isSignal_c1.f k l0 = some r) :
  Calls Try.prog 369 #[.slice A0 l0.length c0, .func (.func 370) #[] #[]] w fun e w' => e = .returned (.bool r) ∧ Drawn0 w w' := by
 have HR0 := xA hr0
 have HC0 := xA hc0
 clear hr0 hc0
 have H : ((slices_IndexFunc_int_int_impl_isSignal_c1.f k l0).bind fun t295 => (some (decide (t295 ≥ 0)))) = some r := h
 clear h
 obtain ⟨t295, A2, H⟩ := xO H
 (try dsimp only at H)
 obtain rfl := Option.some.inj H
 go_enter Try.func369, Try.ntmps369
 go_wp2_with (first | (refine xG (some 7) Try.func398 #[.slice A0 l0.length c0, .func (.func 370) #[] #[]] ?_; (with_reducible refine (slices_IndexFunc_int_int_impl_isSignal_c1.calls k _ _ l0 t295 _ ?side1 ?side2 A2.out).mono ?_); (case side1 => exact xC HR0.out); (case side2 => exact HC0.out); rintro e w' ⟨rfl, ⟨nd, rfl⟩⟩; refine ⟨_, rfl, ?_⟩))
 go_ret
 exact ⟨by first | rfl | (simp; done) | (simp [*]; done), by repeat (first | exact Drawn0.refl _ | apply Drawn0.step)⟩

/-! ### impl_isSignal: function 233 -/
def impl_isSignal.f (k : Nat) (l0 : List Int) : Option (Bool) := if (l0.length : Int) ≤ 64 then ((slices_ContainsFunc_int_int_impl_isSignal_c1.f k l0).bind fun t296 => (some (!t296))) else (some false)
theorem impl_isSignal.mono : ∀ a0 k, LeO (impl_isSignal.f k a0) (impl_isSignal.f (k + 1) a0) := by
 intro a0 k
 have m0 := @slices_ContainsFunc_int_int_impl_isSignal_c1.mono
 unfold impl_isSignal.f
 exact xM
set_option maxHeartbeats 200000000 in
set_option maxRecDepth 100000 in
theorem impl_isSignal.calls (k : Nat) (A0 : Option Addr) (c0 : Nat) (l0 : List Int) (r : Bool) (w : World) (hr0 : Kd.C (Kd.int .i64) w A0 l0.length l0) (hc0 : l0.length ≤ c0) (h : impl_isSignal.f k l0 = some r) :
  Calls Try.prog 233 #[.slice A0 l0.length c0] w fun e w' => e = .returned (.bool r) ∧ Drawn0 w w' := by
 have HR0 := xA hr0
 have HC0 := xA hc0
 clear hr0 hc0
 have H : (if (l0.length : Int) ≤ 64 then ((slices_ContainsFunc_int_int_impl_isSignal_c1.f k l0).bind fun t296 => (some (!t296))) else (some false)) = some r := h
 clear h
 by_cases c2 : (l0.length : Int) ≤ 64
 rotate_left
 ·rw [if_neg c2] at H
  have c2b0 : decide ((l0.length : Int) ≤ 64) = false := decide_eq_false c2
  have c2b1 : decide (l0.length ≤ 64) = false := decide_eq_false (by omega)
  clear c2
  obtain rfl := Option.some.inj H
  go_enter Try.func233, Try.ntmps233
  go_wp2
  go_ret
  exact ⟨by first | rfl | (simp; done) | (simp [*]; done), by repeat (first | exact Drawn0.refl _ | apply Drawn0.step)⟩

 rw [if_pos c2] at H
 have c2b0 : decide ((l0.length : Int) ≤ 64) = true := decide_eq_true c2
 have c2b1 : decide (l0.length ≤ 64) = true := decide_eq_true (by omega)
 clear c2
 obtain ⟨t296, A3, H⟩ := xO H
 (try dsimp only at H)
 obtain rfl := Option.some.inj H
 go_enter Try.func233, Try.ntmps233
 go_wp2_with (first | (go_at_call 369; (with_reducible refine (slices_ContainsFunc_int_int_impl_isSignal_c1.calls k _ _ l0 t296 _ ?side1 ?side2 A3.out).mono ?_); (case side1 => exact xC HR0.out); (case side2 => exact HC0.out); rintro e w' ⟨rfl, ⟨nd, rfl⟩⟩))
 go_ret
 exact ⟨by first | rfl | (simp; done) | (simp [*]; done), by repeat (first | exact Drawn0.refl _ | apply Drawn0.step)⟩
/-! ### impl_Word_ends: function 261 -/
def impl_Word_ends.f (a0_0 : Int) (a0_1 : Bool) : Option (Int × Int) := if 0 ≤ (wrap64 (a0_0 - 1)) then (some (wrap64 (-(shl .i64 1 (wrap64 (a0_0 - 1)))), wrap64 ((shl .i64 1 (wrap64 (a0_0 - 1))) - 1))) else (none)
set_option maxHeartbeats 200000000 in
set_option maxRecDepth 100000 in
theorem impl_Word_ends.calls (a0_0 : Int) (a0_1 : Bool) (r1 : Int) (r2 : Int) (w : World) (h : impl_Word_ends.f a0_0 a0_1 = some (r1, r2)) :
  Calls Try.prog 261 #[.agg #[.int .i64 a0_0, .bool a0_1]] w fun e w' => e = .returned (.tuple #[.int .i64 r1, .int .i64 r2]) ∧ Below w.heap.size w w' := by
 have hu46 := Try.underlying46
 have HB := xA (Below.refl w.heap.size w)
 have H : (if 0 ≤ (wrap64 (a0_0 - 1)) then (some (wrap64 (-(shl .i64 1 (wrap64 (a0_0 - 1)))), wrap64 ((shl .i64 1 (wrap64 (a0_0 - 1))) - 1))) else (none)) = some (r1, r2) := h
 clear h
 obtain ⟨ji2, hji2⟩ : ∃ j_ : Int, (wrap64 (a0_0 - 1)) = j_ := ⟨_, rfl⟩
 (first | rw [hji2] at H | simp only [hji2] at H)
 have hji2w : (IntKind.i64.wrap (a0_0 - 1)) = ji2 := (i64_w _).trans hji2
 by_cases c3 : 0 ≤ (ji2)
 rotate_left
 ·rw [if_neg c3] at H
  exact absurd H (by simp)

 rw [if_pos c3] at H
 have c3b0 := eq_true c3
 have c3b1 : decide (0 ≤ (ji2)) = true := decide_eq_true c3
 clear c3
 obtain ⟨ji4, hji4⟩ : ∃ j_ : Int, (shl .i64 1 (ji2)) = j_ := ⟨_, rfl⟩
 (first | rw [hji4] at H | simp only [hji4] at H)
 have hji4_ : (IntKind.i64.wrap (1 * 2 ^ min (ji2).toNat 64)) = ji4 := hji4
 have hji4z : (ji2) ≤ 64 → (IntKind.i64.wrap (1 * 2 ^ (ji2).toNat)) = ji4 := shl_small hji4
 have hji4u : (IntKind.i64.wrap (2 ^ min (ji2).toNat 64)) = ji4 := by have h_ := hji4_; rw [Int.one_mul] at h_; exact h_
 have hji4v : (ji2) ≤ 64 → (IntKind.i64.wrap (2 ^ (ji2).toNat)) = ji4 := fun hle_ => by have h_ := hji4z hle_; rw [Int.one_mul] at h_; exact h_
 have hji4y : (wrap64 (1 * 2 ^ min (ji2).toNat 64)) = ji4 := (i64_w _).symm.trans hji4_
 have hji4x : (ji2) ≤ 64 → (wrap64 (1 * 2 ^ (ji2).toNat)) = ji4 := fun h_ => (i64_w _).symm.trans (hji4z h_)
 simp only [Option.some.injEq, Prod.mk.injEq] at H
 obtain ⟨rfl, rfl⟩ := H
 go_enter Try.func261, Try.ntmps261
 go_wp2_with (first | (refine xg 1 rfl ?_; refine xV 1 #[.int .i64 a0_0, .bool a0_1] 46 ?_; intro gb297 hg w5 hbox hb; have BK297 := xA (hbox); have GW297 := xgw hg (below_size (xB HB.out)); have GE297 := GW297; replace HB := xA (below_step (xB HB.out) hb); clear hb hbox hg; obtain ⟨hcz6_0, hcz6_1, hfz6_0, hfz6_1⟩ := xZ2 BK297.out))
 go_ret2
 exact ⟨by first | rfl | (simp [errW_none, errW_some] <;> rfl) | (simp only [← hji2, ← hji4]; first | rfl | (simp [errW_none, errW_some] <;> rfl)) | (simp [*, errW_none, errW_some] <;> rfl), xB1 GE297.out HB.out⟩
/-! ### impl_Word_has: function 291 -/
def impl_Word_has.f (a0_0 : Int) (a0_1 : Bool) (a1 : Int) : Option (Bool) := (impl_Word_ends.f a0_0 a0_1).bind fun bt299 => ((impl_in.f a1 bt299.1 bt299.2).bind fun t301 => (some t301))
set_option maxHeartbeats 200000000 in
set_option maxRecDepth 100000 in
theorem impl_Word_has.calls (a0_0 : Int) (a0_1 : Bool) (a1 : Int) (r : Bool) (w : World) (h : impl_Word_has.f a0_0 a0_1 a1 = some r) :
  Calls Try.prog 291 #[.agg #[.int .i64 a0_0, .bool a0_1], .int .i64 a1] w fun e w' => e = .returned (.bool r) ∧ Below w.heap.size w w' := by
 have hu46 := Try.underlying46
 have HB := xA (Below.refl w.heap.size w)
 have H : ((impl_Word_ends.f a0_0 a0_1).bind fun bt299 => ((impl_in.f a1 bt299.1 bt299.2).bind fun t301 => (some t301))) = some r := h
 clear h
 replace H := Option.bind_eq_some_iff.mp H
 obtain ⟨⟨t299, t300⟩, A30, H⟩ := H
 (try dsimp only at H)
 have A3 := xA A30
 clear A30
 obtain ⟨t301, A4, H⟩ := xO H
 (try dsimp only at H)
 obtain rfl := Option.some.inj H
 go_enter Try.func291, Try.ntmps291
 go_wp2_with (first | (refine xq rfl ?_; first | (refine xG (some 9) Try.func261 #[.agg #[.int .i64 a0_0, .bool a0_1]] ?_; (with_reducible refine (impl_Word_ends.calls a0_0 a0_1 t299 t300 _ A3.out).mono ?_); rintro e w7 ⟨rfl, hb⟩; refine ⟨_, rfl, ?_⟩; replace BK298 := xkb BK298 hb; replace HB := xA (below_step (xB1 GE298.out HB.out) hb); (try clear hb)) | (refine xG (some 15) Try.func223 #[.int .i64 a1, .int .i64 t299, .int .i64 t300] ?_; (with_reducible refine (impl_in.calls a1 t299 t300 t301 _ A4.out).mono ?_); rintro e w' ⟨rfl, ⟨nd, rfl⟩⟩; refine ⟨_, rfl, ?_⟩)) | (refine xg 2 rfl ?_; refine xV 2 #[.int .i64 a0_0, .bool a0_1] 46 ?_; intro gb298 hg w5 hbox hb; have BK298 := xA (hbox); have GW298 := xgw hg (below_size (xB HB.out)); have GE298 := GW298; replace HB := xA (below_step (xB HB.out) hb); clear hb hbox hg; obtain ⟨hcz6_0, hcz6_1, hfz6_0, hfz6_1⟩ := xZ2 BK298.out))
 go_ret
 exact ⟨xr, xB1 GE298.out HB.out⟩

/-! ### impl_isSecond: function 344 -/
def impl_isSecond.f (a0_0 : Int) (a0_1 : Int) (a0_2 : Int) (a0_3 : Int) (a0_4 : Int) (a0_5 : Bool) : Option (Bool) := (impl_isFactor.f a0_0).bind fun t303 => (if t303 = true then ((impl_isFactor.f a0_1).bind fun t304 => (if t304 = true then ((impl_isScale.f a0_2 a0_3).bind fun t305 => (if t305 = true then ((impl_isWord.f a0_4 a0_5).bind fun t306 => (some t306)) else (some false))) else (some false))) else (some false))
set_option maxHeartbeats 200000000 in
set_option maxRecDepth 100000 in
theorem impl_isSecond.calls (a0_0 : Int) (a0_1 : Int) (a0_2 : Int) (a0_3 : Int) (a0_4 : Int) (a0_5 : Bool) (r : Bool) (w : World) (h : impl_isSecond.f a0_0 a0_1 a0_2 a0_3 a0_4 a0_5 = some r) :
  Calls Try.prog 344 #[.agg #[.int .i64 a0_0, .int .i64 a0_1, .int .i64 a0_2, .int .i64 a0_3, .int .i64 a0_4, .bool a0_5]] w fun e w' => e = .returned (.bool r) ∧ Below w.heap.size w w' := by
 have hu91 := Try.underlying91
 have hu46 := Try.underlying46
 have HB := xA (Below.refl w.heap.size w)
 have H : ((impl_isFactor.f a0_0).bind fun t303 => (if t303 = true then ((impl_isFactor.f a0_1).bind fun t304 => (if t304 = true then ((impl_isScale.f a0_2 a0_3).bind fun t305 => (if t305 = true then ((impl_isWord.f a0_4 a0_5).bind fun t306 => (some t306)) else (some false))) else (some false))) else (some false))) = some r := h
 clear h
 obtain ⟨t303, A2, H⟩ := xO H
 (try dsimp only at H)
 by_cases c3 : t303 = true
 rotate_left
 ·replace c3 := Bool.eq_false_iff.mpr c3
  subst c3
  rw [if_neg (show ¬ (false = true) by decide)] at H
  obtain rfl := Option.some.inj H
  go_enter Try.func344, Try.ntmps344
  go_wp2_with (first | (refine xg 1 rfl ?_; refine xV 1 #[.int .i64 a0_0, .int .i64 a0_1, .int .i64 a0_2, .int .i64 a0_3, .int .i64 a0_4, .bool a0_5] 91 ?_; intro gb302 hg w16 hbox hb; have BK302 := xA (hbox); have GW302 := xgw hg (below_size (xB HB.out)); have GE302 := GW302; replace HB := xA (below_step (xB HB.out) hb); clear hb hbox hg; obtain ⟨hcz17_0, hcz17_1, hcz17_2, hcz17_3, hcz17_4, hcz17_5, hfz17_0, hfz17_1, hfz17_2, hfz17_3, hfz17_4, hfz17_5⟩ := xZ6 BK302.out) | (refine xG (some 5) Try.func384 #[.int .i64 a0_0] ?_; (with_reducible refine (impl_isFactor.calls a0_0 false _ A2.out).mono ?_); rintro e w' ⟨rfl, ⟨nd, rfl⟩⟩; refine ⟨_, rfl, ?_⟩))
  go_ret
  exact ⟨xr, xB1 GE302.out HB.out⟩

 subst c3
 rw [if_pos rfl] at H
 obtain ⟨t304, A4, H⟩ := xO H
 (try dsimp only at H)
 by_cases c5 : t304 = true
 rotate_left
 ·replace c5 := Bool.eq_false_iff.mpr c5
  subst c5
  rw [if_neg (show ¬ (false = true) by decide)] at H
  obtain rfl := Option.some.inj H
  go_enter Try.func344, Try.ntmps344
  go_wp2_with (first | (refine xg 1 rfl ?_; refine xV 1 #[.int .i64 a0_0, .int .i64 a0_1, .int .i64 a0_2, .int .i64 a0_3, .int .i64 a0_4, .bool a0_5] 91 ?_; intro gb302 hg w14 hbox hb; have BK302 := xA (hbox); have GW302 := xgw hg (below_size (xB HB.out)); have GE302 := GW302; replace HB := xA (below_step (xB HB.out) hb); clear hb hbox hg; obtain ⟨hcz15_0, hcz15_1, hcz15_2, hcz15_3, hcz15_4, hcz15_5, hfz15_0, hfz15_1, hfz15_2, hfz15_3, hfz15_4, hfz15_5⟩ := xZ6 BK302.out) | (refine xG (some 5) Try.func384 #[.int .i64 a0_0] ?_; (with_reducible refine (impl_isFactor.calls a0_0 true _ A2.out).mono ?_); rintro e w' ⟨rfl, ⟨nd, rfl⟩⟩; refine ⟨_, rfl, ?_⟩) | (go_at_call 384; (with_reducible refine (impl_isFactor.calls a0_1 false _ A4.out).mono ?_); rintro e w' ⟨rfl, ⟨nd, rfl⟩⟩))
  go_ret
  exact ⟨xr, xB1 GE302.out HB.out⟩
 subst c5
 rw [if_pos rfl] at H
 obtain ⟨t305, A6, H⟩ := xO H
 (try dsimp only at H)
 by_cases c7 : t305 = true
 rotate_left
 ·replace c7 := Bool.eq_false_iff.mpr c7
  subst c7
  rw [if_neg (show ¬ (false = true) by decide)] at H
  obtain rfl := Option.some.inj H
  go_enter Try.func344, Try.ntmps344
  go_wp2_with (first | (refine xg 1 rfl ?_; refine xV 1 #[.int .i64 a0_0, .int .i64 a0_1, .int .i64 a0_2, .int .i64 a0_3, .int .i64 a0_4, .bool a0_5] 91 ?_; intro gb302 hg w12 hbox hb; have BK302 := xA (hbox); have GW302 := xgw hg (below_size (xB HB.out)); have GE302 := GW302; replace HB := xA (below_step (xB HB.out) hb); clear hb hbox hg; obtain ⟨hcz13_0, hcz13_1, hcz13_2, hcz13_3, hcz13_4, hcz13_5, hfz13_0, hfz13_1, hfz13_2, hfz13_3, hfz13_4, hfz13_5⟩ := xZ6 BK302.out) | (refine xG (some 5) Try.func384 #[.int .i64 a0_0] ?_; (with_reducible refine (impl_isFactor.calls a0_0 true _ A2.out).mono ?_); rintro e w' ⟨rfl, ⟨nd, rfl⟩⟩; refine ⟨_, rfl, ?_⟩) | (go_at_call 384; (with_reducible refine (impl_isFactor.calls a0_1 true _ A4.out).mono ?_); rintro e w' ⟨rfl, ⟨nd, rfl⟩⟩) | (go_at_call 385; (with_reducible refine (impl_isScale.calls a0_2 a0_3 false _ A6.out).mono ?_); rintro e w' ⟨rfl, ⟨nd, rfl⟩⟩))
  go_ret
  exact ⟨xr, xB1 GE302.out HB.out⟩
 subst c7
 rw [if_pos rfl] at H
 obtain ⟨t306, A8, H⟩ := xO H
 (try dsimp only at H)
 obtain rfl := Option.some.inj H
 go_enter Try.func344, Try.ntmps344
 go_wp2_with (first | (refine xg 1 rfl ?_; refine xV 1 #[.int .i64 a0_0, .int .i64 a0_1, .int .i64 a0_2, .int .i64 a0_3, .int .i64 a0_4, .bool a0_5] 91 ?_; intro gb302 hg w9 hbox hb; have BK302 := xA (hbox); have GW302 := xgw hg (below_size (xB HB.out)); have GE302 := GW302; replace HB := xA (below_step (xB HB.out) hb); clear hb hbox hg; obtain ⟨hcz10_0, hcz10_1, hcz10_2, hcz10_3, hcz10_4, hcz10_5, hfz10_0, hfz10_1, hfz10_2, hfz10_3, hfz10_4, hfz10_5⟩ := xZ6 BK302.out) | (refine xG (some 5) Try.func384 #[.int .i64 a0_0] ?_; (with_reducible refine (impl_isFactor.calls a0_0 true _ A2.out).mono ?_); rintro e w' ⟨rfl, ⟨nd, rfl⟩⟩; refine ⟨_, rfl, ?_⟩) | (go_at_call 384; (with_reducible refine (impl_isFactor.calls a0_1 true _ A4.out).mono ?_); rintro e w' ⟨rfl, ⟨nd, rfl⟩⟩) | (go_at_call 385; (with_reducible refine (impl_isScale.calls a0_2 a0_3 true _ A6.out).mono ?_); rintro e w' ⟨rfl, ⟨nd, rfl⟩⟩) | (go_at_call 260; (with_reducible refine (impl_isWord.calls a0_4 a0_5 t306 _ A8.out).mono ?_); rintro e w11 ⟨rfl, hb⟩; replace BK302 := xkb BK302 hb; replace HB := xA (below_step (xB1 GE302.out HB.out) hb); (try clear hb)))
 go_ret
 exact ⟨xr, xB1 GE302.out HB.out⟩
/-! ### impl_Second_isAt: function 336 -/
def impl_Second_isAt.f (a0_0 : Int) (a0_1 : Int) (a0_2 : Int) (a0_3 : Int) (a0_4 : Int) (a0_5 : Bool) (a1 : Int) (a2 : Int) : Option (Bool) := (impl_isSecond.f a0_0 a0_1 a0_2 a0_3 a0_4 a0_5).bind fun t308 => (if t308 = true then ((impl_Word_has.f a0_4 a0_5 a1).bind fun t309 => (if t309 = true then ((impl_Word_has.f a0_4 a0_5 a2).bind fun t310 => (some t310)) else (some false))) else (some false))
set_option maxHeartbeats 200000000 in
set_option maxRecDepth 100000 in
theorem impl_Second_isAt.calls (a0_0 : Int) (a0_1 : Int) (a0_2 : Int) (a0_3 : Int) (a0_4 : Int) (a0_5 : Bool) (a1 : Int) (a2 : Int) (r : Bool) (w : World) (h : impl_Second_isAt.f a0_0 a0_1 a0_2 a0_3 a0_4 a0_5 a1 a2 = some r) :
  Calls Try.prog 336 #[.agg #[.int .i64 a0_0, .int .i64 a0_1, .int .i64 a0_2, .int .i64 a0_3, .int .i64 a0_4, .bool a0_5], .int .i64 a1, .int .i64 a2] w fun e w' => e = .returned (.bool r) ∧ Below w.heap.size w w' := by
 have hu91 := Try.underlying91
 have hu46 := Try.underlying46
 have HB := xA (Below.refl w.heap.size w)
 have H : ((impl_isSecond.f a0_0 a0_1 a0_2 a0_3 a0_4 a0_5).bind fun t308 => (if t308 = true then ((impl_Word_has.f a0_4 a0_5 a1).bind fun t309 => (if t309 = true then ((impl_Word_has.f a0_4 a0_5 a2).bind fun t310 => (some t310)) else (some false))) else (some false))) = some r := h
 clear h
 obtain ⟨t308, A4, H⟩ := xO H
 (try dsimp only at H)
 by_cases c5 : t308 = true
 rotate_left
 ·replace c5 := Bool.eq_false_iff.mpr c5
  subst c5
  rw [if_neg (show ¬ (false = true) by decide)] at H
  obtain rfl := Option.some.inj H
  go_enter Try.func336, Try.ntmps336
  go_wp2_with (first | (refine xg 3 rfl ?_; refine xV 3 #[.int .i64 a0_0, .int .i64 a0_1, .int .i64 a0_2, .int .i64 a0_3, .int .i64 a0_4, .bool a0_5] 91 ?_; intro gb307 hg w21 hbox hb; have BK307 := xA (hbox); have GW307 := xgw hg (below_size (xB HB.out)); have GE307 := GW307; replace HB := xA (below_step (xB HB.out) hb); clear hb hbox hg; replace hz307 := blk_cell BK307.out; replace hy307 := blk_frozen BK307.out) | (refine xG (some 8) Try.func344 #[.agg #[.int .i64 a0_0, .int .i64 a0_1, .int .i64 a0_2, .int .i64 a0_3, .int .i64 a0_4, .bool a0_5]] ?_; (with_reducible refine (impl_isSecond.calls a0_0 a0_1 a0_2 a0_3 a0_4 a0_5 false _ A4.out).mono ?_); rintro e w23 ⟨rfl, hb⟩; refine ⟨_, rfl, ?_⟩; replace BK307 := xkb BK307 hb; replace HB := xA (below_step (xB1 GE307.out HB.out) hb); (try clear hb)))
  go_ret
  exact ⟨xr, xB1 GE307.out HB.out⟩

 subst c5
 rw [if_pos rfl] at H
 obtain ⟨t309, A6, H⟩ := xO H
 (try dsimp only at H)
 by_cases c7 : t309 = true
 rotate_left
 ·replace c7 := Bool.eq_false_iff.mpr c7
  subst c7
  rw [if_neg (show ¬ (false = true) by decide)] at H
  obtain rfl := Option.some.inj H
  go_enter Try.func336, Try.ntmps336
  go_wp2_with (first | (refine xg 3 rfl ?_; refine xV 3 #[.int .i64 a0_0, .int .i64 a0_1, .int .i64 a0_2, .int .i64 a0_3, .int .i64 a0_4, .bool a0_5] 91 ?_; intro gb307 hg w16 hbox hb; have BK307 := xA (hbox); have GW307 := xgw hg (below_size (xB HB.out)); have GE307 := GW307; replace HB := xA (below_step (xB HB.out) hb); clear hb hbox hg; obtain ⟨hcz17_0, hcz17_1, hcz17_2, hcz17_3, hcz17_4, hcz17_5, hfz17_0, hfz17_1, hfz17_2, hfz17_3, hfz17_4, hfz17_5⟩ := xZ6 BK307.out) | (refine xG (some 8) Try.func344 #[.agg #[.int .i64 a0_0, .int .i64 a0_1, .int .i64 a0_2, .int .i64 a0_3, .int .i64 a0_4, .bool a0_5]] ?_; (with_reducible refine (impl_isSecond.calls a0_0 a0_1 a0_2 a0_3 a0_4 a0_5 true _ A4.out).mono ?_); rintro e w18 ⟨rfl, hb⟩; refine ⟨_, rfl, ?_⟩; replace BK307 := xkb BK307 hb; replace HB := xA (below_step (xB1 GE307.out HB.out) hb); (try clear hb); replace hz307 := blk_cell BK307.out; replace hy307 := blk_frozen BK307.out) | (go_at_call 291; (with_reducible refine (impl_Word_has.calls a0_4 a0_5 a1 false _ A6.out).mono ?_); rintro e w20 ⟨rfl, hb⟩; replace BK307 := xkb BK307 hb; replace HB := xA (below_step (xB1 GE307.out HB.out) hb); (try clear hb)))
  go_ret
  exact ⟨xr, xB1 GE307.out HB.out⟩
 subst c7
 rw [if_pos rfl] at H
 obtain ⟨t310, A8, H⟩ := xO H
 (try dsimp only at H)
 obtain rfl := Option.some.inj H
 go_enter Try.func336, Try.ntmps336
 go_wp2_with (first | (refine xg 3 rfl ?_; refine xV 3 #[.int .i64 a0_0, .int .i64 a0_1, .int .i64 a0_2, .int .i64 a0_3, .int .i64 a0_4, .bool a0_5] 91 ?_; intro gb307 hg w9 hbox hb; have BK307 := xA (hbox); have GW307 := xgw hg (below_size (xB HB.out)); have GE307 := GW307; replace HB := xA (below_step (xB HB.out) hb); clear hb hbox hg; obtain ⟨hcz10_0, hcz10_1, hcz10_2, hcz10_3, hcz10_4, hcz10_5, hfz10_0, hfz10_1, hfz10_2, hfz10_3, hfz10_4, hfz10_5⟩ := xZ6 BK307.out) | (refine xG (some 8) Try.func344 #[.agg #[.int .i64 a0_0, .int .i64 a0_1, .int .i64 a0_2, .int .i64 a0_3, .int .i64 a0_4, .bool a0_5]] ?_; (with_reducible refine (impl_isSecond.calls a0_0 a0_1 a0_2 a0_3 a0_4 a0_5 true _ A4.out).mono ?_); rintro e w11 ⟨rfl, hb⟩; refine ⟨_, rfl, ?_⟩; replace BK307 := xkb BK307 hb; replace HB := xA (below_step (xB1 GE307.out HB.out) hb); (try clear hb); obtain ⟨hcz12_0, hcz12_1, hcz12_2, hcz12_3, hcz12_4, hcz12_5, hfz12_0, hfz12_1, hfz12_2, hfz12_3, hfz12_4, hfz12_5⟩ := xZ6 BK307.out) | (go_at_call 291; (with_reducible refine (impl_Word_has.calls a0_4 a0_5 a1 true _ A6.out).mono ?_); rintro e w13 ⟨rfl, hb⟩; replace BK307 := xkb BK307 hb; replace HB := xA (below_step (xB1 GE307.out HB.out) hb); (try clear hb); replace hz307 := blk_cell BK307.out; replace hy307 := blk_frozen BK307.out) | (go_at_call 291; (with_reducible refine (impl_Word_has.calls a0_4 a0_5 a2 t310 _ A8.out).mono ?_); rintro e w15 ⟨rfl, hb⟩; replace BK307 := xkb BK307 hb; replace HB := xA (below_step (xB1 GE307.out HB.out) hb); (try clear hb)))
 go_ret
 exact ⟨xr, xB1 GE307.out HB.out⟩
/-! ### impl_mod: function 377 -/
def impl_mod.f (a0 : Int) (a1 : Int) : Option (Int) := if a1 = 0 then (none) else (some (Int.tmod (wrap64 ((Int.tmod a0 a1) + a1)) a1))
set_option maxHeartbeats 200000000 in
set_option maxRecDepth 100000 in
theorem impl_mod.calls (a0 : Int) (a1 : Int) (r : Int) (w : World) (h : impl_mod.f a0 a1 = some r) :
  Calls Try.prog 377 #[.int .i64 a0, .int .i64 a1] w fun e w' => e = .returned (.int .i64 r) ∧ Drawn0 w w' := by
 have H : (if a1 = 0 then (none) else (some (Int.tmod (wrap64 ((Int.tmod a0 a1) + a1)) a1))) = some r := h
 clear h
 by_cases c3 : a1 = 0
 ·rw [if_pos c3] at H
  exact absurd H (by simp)
 rw [if_neg c3] at H
 have c3b0 : (a1 == 0) = false := beq_eq_false_iff_ne.mpr c3
 have c3b1 : (a1 != 0) = true := bne_iff_ne.mpr c3
 obtain rfl := Option.some.inj H
 go_enter Try.func377, Try.ntmps377
 go_wp2
 go_ret
 exact ⟨by first | rfl | (simp; done) | (simp [*]; done), by repeat (first | exact Drawn0.refl _ | apply Drawn0.step)⟩

/-! ### impl_Word_fit: function 253 -/
def impl_Word_fit.f (a0_0 : Int) (a0_1 : Bool) (a1 : Int) : Option (Int) := (impl_Word_ends.f a0_0 a0_1).bind fun bt312 => (if a0_1 = true then ((impl_mod.f (wrap64 (a1 - bt312.1)) (wrap64 ((wrap64 (bt312.2 - bt312.1)) + 1))).bind fun t314 => (some (wrap64 (t314 + bt312.1)))) else (some (mn (mx a1 bt312.1) bt312.2)))
set_option maxHeartbeats 200000000 in
set_option maxRecDepth 100000 in
theorem impl_Word_fit.calls (a0_0 : Int) (a0_1 : Bool) (a1 : Int) (r : Int) (w : World) (h : impl_Word_fit.f a0_0 a0_1 a1 = some r) :
  Calls Try.prog 253 #[.agg #[.int .i64 a0_0, .bool a0_1], .int .i64 a1] w fun e w' => e = .returned (.int .i64 r) ∧ Below w.heap.size w w' := by
 have hu46 := Try.underlying46
 have HB := xA (Below.refl w.heap.size w)
 have H : ((impl_Word_ends.f a0_0 a0_1).bind fun bt312 => (if a0_1 = true then ((impl_mod.f (wrap64 (a1 - bt312.1)) (wrap64 ((wrap64 (bt312.2 - bt312.1)) + 1))).bind fun t314 => (some (wrap64 (t314 + bt312.1)))) else (some (mn (mx a1 bt312.1) bt312.2)))) = some r := h
 clear h
 replace H := Option.bind_eq_some_iff.mp H
 obtain ⟨⟨t312, t313⟩, A30, H⟩ := H
 (try dsimp only at H)
 have A3 := xA A30
 clear A30
 by_cases c4 : a0_1 = true
 ·subst c4
  rw [if_pos rfl] at H
  obtain ⟨t314, A5, H⟩ := xO H
  (try dsimp only at H)
  obtain rfl := Option.some.inj H
  go_enter Try.func253, Try.ntmps253
  go_wp2_with (first | (refine xq rfl ?_; first | (refine xG (some 9) Try.func261 #[.agg #[.int .i64 a0_0, .bool true]] ?_; (with_reducible refine (impl_Word_ends.calls a0_0 true t312 t313 _ A3.out).mono ?_); rintro e w8 ⟨rfl, hb⟩; refine ⟨_, rfl, ?_⟩; replace BK311 := xkb BK311 hb; replace HB := xA (below_step (xB1 GE311.out HB.out) hb); (try clear hb); replace hz311 := blk_cell BK311.out; replace hy311 := blk_frozen BK311.out) | (refine xG (some 21) Try.func377 #[.int .i64 (wrap64 (a1 - t312)), .int .i64 (wrap64 ((wrap64 (t313 - t312)) + 1))] ?_; (with_reducible refine (impl_mod.calls (wrap64 (a1 - t312)) (wrap64 ((wrap64 (t313 - t312)) + 1)) t314 _ A5.out).mono ?_); rintro e w' ⟨rfl, ⟨nd, rfl⟩⟩; refine ⟨_, rfl, ?_⟩)) | (refine xg 2 rfl ?_; refine xV 2 #[.int .i64 a0_0, .bool true] 46 ?_; intro gb311 hg w6 hbox hb; have BK311 := xA (hbox); have GW311 := xgw hg (below_size (xB HB.out)); have GE311 := GW311; replace HB := xA (below_step (xB HB.out) hb); clear hb hbox hg; replace hz311 := blk_cell BK311.out; replace hy311 := blk_frozen BK311.out))
  go_ret
  exact ⟨xr, xB1 GE311.out HB.out⟩
 replace c4 := Bool.eq_false_iff.mpr c4
 subst c4
 rw [if_neg (show ¬ (false = true) by decide)] at H
 obtain ⟨ji10, hji10⟩ : ∃ j_ : Int, (mx a1 t312) = j_ := ⟨_, rfl⟩
 (first | rw [hji10] at H | simp only [hji10] at H)
 (try rw [hji10] at A3)
 have hji10_ : (if a1 < t312 then t312 else a1) = ji10 := hji10
 obtain ⟨ji11, hji11⟩ : ∃ j_ : Int, (mn (ji10) t313) = j_ := ⟨_, rfl⟩
 (first | rw [hji11] at H | simp only [hji11] at H)
 (try rw [hji11] at A3)
 have hji11_ : (if t313 < (ji10) then t313 else (ji10)) = ji11 := hji11
 obtain rfl := Option.some.inj H
 go_enter Try.func253, Try.ntmps253
 go_wp2_with (first | (refine xg 2 rfl ?_; refine xV 2 #[.int .i64 a0_0, .bool false] 46 ?_; intro gb311 hg w12 hbox hb; have BK311 := xA (hbox); have GW311 := xgw hg (below_size (xB HB.out)); have GE311 := GW311; replace HB := xA (below_step (xB HB.out) hb); clear hb hbox hg; obtain ⟨hcz13_0, hcz13_1, hfz13_0, hfz13_1⟩ := xZ2 BK311.out) | (refine xG (some 9) Try.func261 #[.agg #[.int .i64 a0_0, .bool false]] ?_; (with_reducible refine (impl_Word_ends.calls a0_0 false t312 t313 _ A3.out).mono ?_); rintro e w14 ⟨rfl, hb⟩; refine ⟨_, rfl, ?_⟩; replace BK311 := xkb BK311 hb; replace HB := xA (below_step (xB1 GE311.out HB.out) hb); (try clear hb); obtain ⟨hcz15_0, hcz15_1, hfz15_0, hfz15_1⟩ := xZ2 BK311.out))
 go_ret
 exact ⟨by first | rfl | (simp [errW_none, errW_some] <;> rfl) | (simp only [← hji10, ← hji11]; first | rfl | (simp [errW_none, errW_some] <;> rfl)) | (simp [*, errW_none, errW_some] <;> rfl), xB1 GE311.out HB.out⟩

end Go.Proofs.Ytjplcongellcmaa.PFnPairsRun
