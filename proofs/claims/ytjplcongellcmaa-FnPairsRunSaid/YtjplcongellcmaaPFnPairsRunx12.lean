/- What each Go function that the statement FnPairsRun reaches answers, proved call by call. No condition beyond those that the theorems print. (Written by wip/tools/xprint.py of this repo, over the kit's print.) -/
import Derived.Test.YtjplcongellcmaaPFnPairsRunx0
import Derived.Test.YtjplcongellcmaaPFnPairsRunx2
import Derived.Test.YtjplcongellcmaaPFnPairsRunx11
namespace Go.Proofs.Ytjplcongellcmaa.PFnPairsRun
open Go.RowKit Go.Proofs.YtjplcongellcmaaW.PrintWords Go.Proofs.YtjplcongellcmaaW.PrintLast Go.Proofs.YtjplcongellcmaaW.PrintMore
attribute [local go_sem] max2_int min2_int max_two min_two max_three min_three max_four min_four   -- for this text's walks alone
set_option linter.unusedVariables false
set_option linter.unusedSimpArgs false

/-! ### spec_DrawSecondOfFirsts: function 145 -/
def spec_DrawSecondOfFirsts.f (l0 : List Int) : Option (Int × Int × Int × Int × Bool × Int × Int × Int × Int × Bool) := (spec_l1Cur_first.f l0 0 0 8).bind fun bt465 => ((spec_l1Cur_first.f l0 bt465.2.2.2.2.2.1 bt465.2.2.2.2.2.2 8).bind fun bt472 => (some (bt465.1, bt465.2.1, bt465.2.2.1, bt465.2.2.2.1, bt465.2.2.2.2.1, bt472.1, bt472.2.1, bt472.2.2.1, bt472.2.2.2.1, bt472.2.2.2.2.1)))
set_option maxHeartbeats 200000000 in
set_option maxRecDepth 100000 in
theorem spec_DrawSecondOfFirsts.calls (A0 : Option Addr) (c0 : Nat) (l0 : List Int) (r1 : Int) (r2 : Int) (r3 : Int) (r4 : Int) (r5 : Bool) (r6 : Int) (r7 : Int) (r8 : Int) (r9 : Int) (r10 : Bool) (w : World) (hr0 : Kd.C (Kd.int .u8) w A0 l0.length l0) (hc0 : l0.length ≤ c0) (h : spec_DrawSecondOfFirsts.f l0 = some (r1, r2, r3, r4, r5, r6, r7, r8, r9, r10)) :
  Calls Try.prog 145 #[.slice A0 l0.length c0] w fun e w' => e = .returned (.tuple #[.agg #[.int .i64 r1, .int .i64 r2, .int .i64 r3, .int .i64 r4, .bool r5], .agg #[.int .i64 r6, .int .i64 r7, .int .i64 r8, .int .i64 r9, .bool r10]]) ∧ Below w.heap.size w w' := by
 have hu62 := Try.underlying62
 have hu129 := Try.underlying129
 have HR0 := xA hr0
 have HC0 := xA hc0
 clear hr0 hc0
 have HB := xA (Below.refl w.heap.size w)
 have H : ((spec_l1Cur_first.f l0 0 0 8).bind fun bt465 => ((spec_l1Cur_first.f l0 bt465.2.2.2.2.2.1 bt465.2.2.2.2.2.2 8).bind fun bt472 => (some (bt465.1, bt465.2.1, bt465.2.2.1, bt465.2.2.2.1, bt465.2.2.2.2.1, bt472.1, bt472.2.1, bt472.2.2.1, bt472.2.2.2.1, bt472.2.2.2.2.1)))) = some (r1, r2, r3, r4, r5, r6, r7, r8, r9, r10) := h
 clear h
 replace H := Option.bind_eq_some_iff.mp H
 obtain ⟨⟨t465, t466, t467, t468, t469, t470, t471⟩, A20, H⟩ := H
 (try dsimp only at H)
 have A2 := xA A20
 clear A20
 replace H := Option.bind_eq_some_iff.mp H
 obtain ⟨⟨t472, t473, t474, t475, t476, t477, t478⟩, A30, H⟩ := H
 (try dsimp only at H)
 have A3 := xA A30
 clear A30
 simp only [Option.some.injEq, Prod.mk.injEq] at H
 obtain ⟨rfl, rfl, rfl, rfl, rfl, rfl, rfl, rfl, rfl, rfl⟩ := H
 go_enter Try.func145, Try.ntmps145
 go_wp2_with (first | (refine xq rfl ?_; first | (refine xG (some 9) Try.func281 #[.pointer (some ⟨gb464, 0, none⟩), .int .i64 8] ?_; (with_reducible refine (spec_l1Cur_first.calls gb464 l0 0 0 8 t465 t466 t467 t468 t469 t470 t471 w _ ?side1 ?side2 A2.out).mono ?_); (case side1 => exact xJ129_12_2 NB464_462.out NB464_463.out HI464.out); (case side2 => exact xB3 (IsS129.ge HI464.out) GE462.out GE463.out HB.out); rintro e w7 ⟨rfl, hi, hb, hk⟩; refine ⟨_, rfl, ?_⟩; replace BK462 := xkk hk BK462 NB462_464; replace BK463 := xkk hk BK463 NB463_464; replace HB := xA (hb); replace HI464 := xA (hi); (try clear hb hk hi)) | (refine xG (some 11) Try.func281 #[.pointer (some ⟨gb464, 0, none⟩), .int .i64 8] ?_; (with_reducible refine (spec_l1Cur_first.calls gb464 l0 t470 t471 8 t472 t473 t474 t475 t476 t477 t478 w _ ?side1 ?side2 A3.out).mono ?_); (case side1 => exact xJ129_12_2 NB464_462.out NB464_463.out HI464.out); (case side2 => exact xB3 (IsS129.ge HI464.out) GE462.out GE463.out HB.out); rintro e w8 ⟨rfl, hi, hb, hk⟩; refine ⟨_, rfl, ?_⟩; replace BK462 := xkk hk BK462 NB462_464; replace BK463 := xkk hk BK463 NB463_464; replace HB := xA (hb); replace HI464 := xA (hi); (try clear hb hk hi); have hnb9 := NB462_463.out; have hnc9 := NB463_462.out; have hnb10 := NB462_464.out; have hnc10 := NB464_462.out; replace hz462 := blk_cell BK462.out; replace hy462 := blk_frozen BK462.out; have hnb12 := NB463_464.out; have hnc12 := NB464_463.out; replace hz463 := blk_cell BK463.out; replace hy463 := blk_frozen BK463.out)) | (refine xg 2 rfl ?_; refine xV 2 #[.int .i64 0, .int .i64 0, .int .i64 0, .int .i64 0, .bool false] 62 ?_; intro gb462 hg w4 hbox hb; have BK462 := xA (hbox); have GW462 := xgw hg (below_size (xB HB.out)); have GE462 := GW462; replace HB := xA (below_step (xB HB.out) hb); clear hb hbox hg) | (refine xg 3 rfl ?_; refine xV 3 #[.int .i64 0, .int .i64 0, .int .i64 0, .int .i64 0, .bool false] 62 ?_; intro gb463 hg w5 hbox hb; have BK463 := xA (hbox); have GW463 := xgw hg (below_size (xB1 GE462.out HB.out)); have GE463 := GW463; replace HB := xA (below_step (xB1 GE462.out HB.out) hb); have NB462_463 := xnl hg BK462; have NB463_462 := xng hg BK462; replace BK462 := xkb BK462 hb; clear hb hbox hg) | (refine xg 7 rfl ?_; refine xV 7 #[.slice A0 l0.length c0, .int .i64 0, .int .u64 0] 129 ?_; intro gb464 hg w6 hbox hb; have HI464 := xA ((show IsS129 w _ gb464 l0 0 0 from ⟨_, _, hbox, (by rw [hg]; exact (below_size (xB2 GE462.out GE463.out HB.out)) : w.heap.size ≤ gb464), HR0.out⟩)); replace HB := xA (below_step (xB2 GE462.out GE463.out HB.out) hb); have NB462_464 := xnl hg BK462; have NB464_462 := xng hg BK462; replace BK462 := xkb BK462 hb; have NB463_464 := xnl hg BK463; have NB464_463 := xng hg BK463; replace BK463 := xkb BK463 hb; clear hb hbox hg))
 refine bodyPost_ret (results_cc rfl _ _ gb462 gb463 62 62 #[.int .i64 t465, .int .i64 t466, .int .i64 t467, .int .i64 t468, .bool t469] #[.int .i64 t472, .int .i64 t473, .int .i64 t474, .int .i64 t475, .bool t476] (0, 0) (0, 0) _ _ rfl (xPt1 NB462_463.out BK462.out) Try.underlying62 rfl (by kernel_rfl) rfl (xPt1 NB463_462.out BK463.out) Try.underlying62 rfl (by kernel_rfl)) rfl ?_
 exact ⟨xr, xB3 (IsS129.ge HI464.out) GE462.out GE463.out HB.out⟩

end Go.Proofs.Ytjplcongellcmaa.PFnPairsRun
