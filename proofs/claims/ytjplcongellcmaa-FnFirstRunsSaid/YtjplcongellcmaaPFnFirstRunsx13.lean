/- What each Go function that the statement FnFirstRuns reaches answers, proved call by call. No condition beyond those that the theorems print. (Written by wip/tools/xprint.py of this repo, over the kit's print.) -/
import Derived.Test.YtjplcongellcmaaPFnFirstRunsx0
import Derived.Test.YtjplcongellcmaaPFnFirstRunsx6
import Derived.Test.YtjplcongellcmaaPFnFirstRunsx12
namespace Go.Proofs.Ytjplcongellcmaa.PFnFirstRuns
open Go.RowKit Go.Proofs.YtjplcongellcmaaW.PrintWords Go.Proofs.YtjplcongellcmaaW.PrintLast Go.Proofs.YtjplcongellcmaaW.PrintMore
attribute [local go_sem] max2_int min2_int max_two min_two max_three min_three max_four min_four   -- for this text's walks alone
set_option linter.unusedVariables false
set_option linter.unusedSimpArgs false

/-! ### spec_FirstStep: function 104 -/
def spec_FirstStep.f (k : Nat) (a0_0 : Int) (a0_1 : Int) (a0_2 : Int) (a0_3 : Int) (a0_4 : Bool) (a1 : Int) (a2 : Int) : Option (Int × Bool) := (spec_foAsked.f a0_0 a0_1 a0_2 a0_3 a0_4 a1 a2).bind fun t514 => (if t514 = true then ((spec_foStep.f k a0_0 a0_1 a0_2 a0_3 a0_4 a1 a2).bind fun t515 => (some (t515, true))) else (some (0, false)))
theorem spec_FirstStep.mono : ∀ a0 a1 a2 a3 a4 a5 a6 k, LeO (spec_FirstStep.f k a0 a1 a2 a3 a4 a5 a6) (spec_FirstStep.f (k + 1) a0 a1 a2 a3 a4 a5 a6) := by
 intro a0 a1 a2 a3 a4 a5 a6 k
 have m0 := @spec_foStep.mono
 unfold spec_FirstStep.f
 exact xM
set_option maxHeartbeats 200000000 in
set_option maxRecDepth 100000 in
theorem spec_FirstStep.calls (k : Nat) (a0_0 : Int) (a0_1 : Int) (a0_2 : Int) (a0_3 : Int) (a0_4 : Bool) (a1 : Int) (a2 : Int) (r1 : Int) (r2 : Bool) (w : World) (h : spec_FirstStep.f k a0_0 a0_1 a0_2 a0_3 a0_4 a1 a2 = some (r1, r2)) :
  Calls Try.prog 104 #[.agg #[.int .i64 a0_0, .int .i64 a0_1, .int .i64 a0_2, .int .i64 a0_3, .bool a0_4], .int .i64 a1, .int .i64 a2] w fun e w' => e = .returned (.tuple #[.int .i64 r1, .bool r2]) ∧ Below w.heap.size w w' := by
 have hu62 := Try.underlying62
 have HB := xA (Below.refl w.heap.size w)
 have H : ((spec_foAsked.f a0_0 a0_1 a0_2 a0_3 a0_4 a1 a2).bind fun t514 => (if t514 = true then ((spec_foStep.f k a0_0 a0_1 a0_2 a0_3 a0_4 a1 a2).bind fun t515 => (some (t515, true))) else (some (0, false)))) = some (r1, r2) := h
 clear h
 obtain ⟨t514, A4, H⟩ := xO H
 (try dsimp only at H)
 by_cases c5 : t514 = true
 rotate_left
 ·replace c5 := Bool.eq_false_iff.mpr c5
  subst c5
  rw [if_neg (show ¬ (false = true) by decide)] at H
  simp only [Option.some.injEq, Prod.mk.injEq] at H
  obtain ⟨rfl, rfl⟩ := H
  go_enter Try.func104, Try.ntmps104
  go_wp2_with (first | (refine xg 3 rfl ?_; refine xV 3 #[.int .i64 a0_0, .int .i64 a0_1, .int .i64 a0_2, .int .i64 a0_3, .bool a0_4] 62 ?_; intro gb513 hg w12 hbox hb; have BK513 := xA (hbox); have GW513 := xgw hg (below_size (xB HB.out)); have GE513 := GW513; replace HB := xA (below_step (xB HB.out) hb); clear hb hbox hg; replace hz513 := blk_cell BK513.out; replace hy513 := blk_frozen BK513.out) | (refine xG (some 11) Try.func285 #[.agg #[.int .i64 a0_0, .int .i64 a0_1, .int .i64 a0_2, .int .i64 a0_3, .bool a0_4], .int .i64 a1, .int .i64 a2] ?_; (with_reducible refine (spec_foAsked.calls a0_0 a0_1 a0_2 a0_3 a0_4 a1 a2 false _ A4.out).mono ?_); rintro e w14 ⟨rfl, hb⟩; refine ⟨_, rfl, ?_⟩; replace BK513 := xkb BK513 hb; replace HB := xA (below_step (xB1 GE513.out HB.out) hb); (try clear hb)))
  go_ret2
  exact ⟨xr, xB1 GE513.out HB.out⟩

 subst c5
 rw [if_pos rfl] at H
 obtain ⟨t515, A6, H⟩ := xO H
 (try dsimp only at H)
 simp only [Option.some.injEq, Prod.mk.injEq] at H
 obtain ⟨rfl, rfl⟩ := H
 go_enter Try.func104, Try.ntmps104
 go_wp2_with (first | (refine xq rfl ?_; first | (refine xG (some 11) Try.func285 #[.agg #[.int .i64 a0_0, .int .i64 a0_1, .int .i64 a0_2, .int .i64 a0_3, .bool a0_4], .int .i64 a1, .int .i64 a2] ?_; (with_reducible refine (spec_foAsked.calls a0_0 a0_1 a0_2 a0_3 a0_4 a1 a2 true _ A4.out).mono ?_); rintro e w9 ⟨rfl, hb⟩; refine ⟨_, rfl, ?_⟩; replace BK513 := xkb BK513 hb; replace HB := xA (below_step (xB1 GE513.out HB.out) hb); (try clear hb); replace hz513 := blk_cell BK513.out; replace hy513 := blk_frozen BK513.out) | (refine xG (some 16) Try.func302 #[.agg #[.int .i64 a0_0, .int .i64 a0_1, .int .i64 a0_2, .int .i64 a0_3, .bool a0_4], .int .i64 a1, .int .i64 a2] ?_; (with_reducible refine (spec_foStep.calls k a0_0 a0_1 a0_2 a0_3 a0_4 a1 a2 t515 _ A6.out).mono ?_); rintro e w11 ⟨rfl, hb⟩; refine ⟨_, rfl, ?_⟩; replace BK513 := xkb BK513 hb; replace HB := xA (below_step (xB1 GE513.out HB.out) hb); (try clear hb))) | (refine xg 3 rfl ?_; refine xV 3 #[.int .i64 a0_0, .int .i64 a0_1, .int .i64 a0_2, .int .i64 a0_3, .bool a0_4] 62 ?_; intro gb513 hg w7 hbox hb; have BK513 := xA (hbox); have GW513 := xgw hg (below_size (xB HB.out)); have GE513 := GW513; replace HB := xA (below_step (xB HB.out) hb); clear hb hbox hg; replace hz513 := blk_cell BK513.out; replace hy513 := blk_frozen BK513.out))
 go_ret2
 exact ⟨xr, xB1 GE513.out HB.out⟩
end Go.Proofs.Ytjplcongellcmaa.PFnFirstRuns
