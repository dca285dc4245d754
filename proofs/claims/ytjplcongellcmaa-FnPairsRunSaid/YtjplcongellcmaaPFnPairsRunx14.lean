/- What each Go function that the statement FnPairsRun reaches answers, proved call by call. No condition beyond those that the theorems print. (Written by wip/tools/xprint.py of this repo, over the kit's print.) -/
import Derived.Test.YtjplcongellcmaaPFnPairsRunx0
import Derived.Test.YtjplcongellcmaaPFnPairsRunx3
import Derived.Test.YtjplcongellcmaaPFnPairsRunx7
namespace Go.Proofs.Ytjplcongellcmaa.PFnPairsRun
open Go.RowKit Go.Proofs.YtjplcongellcmaaW.PrintWords Go.Proofs.YtjplcongellcmaaW.PrintLast Go.Proofs.YtjplcongellcmaaW.PrintMore
attribute [local go_sem] max2_int min2_int max_two min_two max_three min_three max_four min_four   -- for this text's walks alone
set_option linter.unusedVariables false
set_option linter.unusedSimpArgs false

/-! ### spec_foGood: function 297 -/
def spec_foGood.f (a0_0 : Int) (a0_1 : Int) (a0_2 : Int) (a0_3 : Int) (a0_4 : Bool) : Option (Bool) := (spec_l1In.f a0_0 (-1024) 1024).bind fun t487 => (if t487 = true then ((spec_l1In.f a0_1 0 10).bind fun t488 => (if t488 = true then ((spec_wdMode.f a0_1 a0_2).bind fun t489 => (if t489 = true then ((spec_wdGood.f a0_3 a0_4).bind fun t490 => (some t490)) else (some false))) else (some false))) else (some false))
set_option maxHeartbeats 200000000 in
set_option maxRecDepth 100000 in
theorem spec_foGood.calls (a0_0 : Int) (a0_1 : Int) (a0_2 : Int) (a0_3 : Int) (a0_4 : Bool) (r : Bool) (w : World) (h : spec_foGood.f a0_0 a0_1 a0_2 a0_3 a0_4 = some r) :
  Calls Try.prog 297 #[.agg #[.int .i64 a0_0, .int .i64 a0_1, .int .i64 a0_2, .int .i64 a0_3, .bool a0_4]] w fun e w' => e = .returned (.bool r) ∧ Below w.heap.size w w' := by
 have hu62 := Try.underlying62
 have hu46 := Try.underlying46
 have HB := xA (Below.refl w.heap.size w)
 have H : ((spec_l1In.f a0_0 (-1024) 1024).bind fun t487 => (if t487 = true then ((spec_l1In.f a0_1 0 10).bind fun t488 => (if t488 = true then ((spec_wdMode.f a0_1 a0_2).bind fun t489 => (if t489 = true then ((spec_wdGood.f a0_3 a0_4).bind fun t490 => (some t490)) else (some false))) else (some false))) else (some false))) = some r := h
 clear h
 obtain ⟨t487, A2, H⟩ := xO H
 (try dsimp only at H)
 by_cases c3 : t487 = true
 rotate_left
 ·replace c3 := Bool.eq_false_iff.mpr c3
  subst c3
  rw [if_neg (show ¬ (false = true) by decide)] at H
  obtain rfl := Option.some.inj H
  go_enter Try.func297, Try.ntmps297
  go_wp2_with (first | (refine xg 1 rfl ?_; refine xV 1 #[.int .i64 a0_0, .int .i64 a0_1, .int .i64 a0_2, .int .i64 a0_3, .bool a0_4] 62 ?_; intro gb486 hg w16 hbox hb; have BK486 := xA (hbox); have GW486 := xgw hg (below_size (xB HB.out)); have GE486 := GW486; replace HB := xA (below_step (xB HB.out) hb); clear hb hbox hg; replace hz486 := blk_cell BK486.out; replace hy486 := blk_frozen BK486.out) | (refine xG (some 5) Try.func230 #[.int .i64 a0_0, .int .i64 (-1024), .int .i64 1024] ?_; (with_reducible refine (spec_l1In.calls a0_0 (-1024) 1024 false _ A2.out).mono ?_); rintro e w' ⟨rfl, ⟨nd, rfl⟩⟩; refine ⟨_, rfl, ?_⟩))
  go_ret
  exact ⟨xr, xB1 GE486.out HB.out⟩

 subst c3
 rw [if_pos rfl] at H
 obtain ⟨t488, A4, H⟩ := xO H
 (try dsimp only at H)
 by_cases c5 : t488 = true
 rotate_left
 ·replace c5 := Bool.eq_false_iff.mpr c5
  subst c5
  rw [if_neg (show ¬ (false = true) by decide)] at H
  obtain rfl := Option.some.inj H
  go_enter Try.func297, Try.ntmps297
  go_wp2_with (first | (refine xg 1 rfl ?_; refine xV 1 #[.int .i64 a0_0, .int .i64 a0_1, .int .i64 a0_2, .int .i64 a0_3, .bool a0_4] 62 ?_; intro gb486 hg w14 hbox hb; have BK486 := xA (hbox); have GW486 := xgw hg (below_size (xB HB.out)); have GE486 := GW486; replace HB := xA (below_step (xB HB.out) hb); clear hb hbox hg; replace hz486 := blk_cell BK486.out; replace hy486 := blk_frozen BK486.out) | (refine xG (some 5) Try.func230 #[.int .i64 a0_0, .int .i64 (-1024), .int .i64 1024] ?_; (with_reducible refine (spec_l1In.calls a0_0 (-1024) 1024 true _ A2.out).mono ?_); rintro e w' ⟨rfl, ⟨nd, rfl⟩⟩; refine ⟨_, rfl, ?_⟩) | (go_at_call 230; (with_reducible refine (spec_l1In.calls a0_1 0 10 false _ A4.out).mono ?_); rintro e w' ⟨rfl, ⟨nd, rfl⟩⟩))
  go_ret
  exact ⟨xr, xB1 GE486.out HB.out⟩
 subst c5
 rw [if_pos rfl] at H
 obtain ⟨t489, A6, H⟩ := xO H
 (try dsimp only at H)
 by_cases c7 : t489 = true
 rotate_left
 ·replace c7 := Bool.eq_false_iff.mpr c7
  subst c7
  rw [if_neg (show ¬ (false = true) by decide)] at H
  obtain rfl := Option.some.inj H
  go_enter Try.func297, Try.ntmps297
  go_wp2_with (first | (refine xg 1 rfl ?_; refine xV 1 #[.int .i64 a0_0, .int .i64 a0_1, .int .i64 a0_2, .int .i64 a0_3, .bool a0_4] 62 ?_; intro gb486 hg w12 hbox hb; have BK486 := xA (hbox); have GW486 := xgw hg (below_size (xB HB.out)); have GE486 := GW486; replace HB := xA (below_step (xB HB.out) hb); clear hb hbox hg; replace hz486 := blk_cell BK486.out; replace hy486 := blk_frozen BK486.out) | (refine xG (some 5) Try.func230 #[.int .i64 a0_0, .int .i64 (-1024), .int .i64 1024] ?_; (with_reducible refine (spec_l1In.calls a0_0 (-1024) 1024 true _ A2.out).mono ?_); rintro e w' ⟨rfl, ⟨nd, rfl⟩⟩; refine ⟨_, rfl, ?_⟩) | (go_at_call 230; (with_reducible refine (spec_l1In.calls a0_1 0 10 true _ A4.out).mono ?_); rintro e w' ⟨rfl, ⟨nd, rfl⟩⟩) | (go_at_call 366; (with_reducible refine (spec_wdMode.calls a0_1 a0_2 false _ A6.out).mono ?_); rintro e w' ⟨rfl, ⟨nd, rfl⟩⟩))
  go_ret
  exact ⟨xr, xB1 GE486.out HB.out⟩
 subst c7
 rw [if_pos rfl] at H
 obtain ⟨t490, A8, H⟩ := xO H
 (try dsimp only at H)
 obtain rfl := Option.some.inj H
 go_enter Try.func297, Try.ntmps297
 go_wp2_with (first | (refine xg 1 rfl ?_; refine xV 1 #[.int .i64 a0_0, .int .i64 a0_1, .int .i64 a0_2, .int .i64 a0_3, .bool a0_4] 62 ?_; intro gb486 hg w9 hbox hb; have BK486 := xA (hbox); have GW486 := xgw hg (below_size (xB HB.out)); have GE486 := GW486; replace HB := xA (below_step (xB HB.out) hb); clear hb hbox hg; replace hz486 := blk_cell BK486.out; replace hy486 := blk_frozen BK486.out) | (refine xG (some 5) Try.func230 #[.int .i64 a0_0, .int .i64 (-1024), .int .i64 1024] ?_; (with_reducible refine (spec_l1In.calls a0_0 (-1024) 1024 true _ A2.out).mono ?_); rintro e w' ⟨rfl, ⟨nd, rfl⟩⟩; refine ⟨_, rfl, ?_⟩) | (go_at_call 230; (with_reducible refine (spec_l1In.calls a0_1 0 10 true _ A4.out).mono ?_); rintro e w' ⟨rfl, ⟨nd, rfl⟩⟩) | (go_at_call 366; (with_reducible refine (spec_wdMode.calls a0_1 a0_2 true _ A6.out).mono ?_); rintro e w' ⟨rfl, ⟨nd, rfl⟩⟩) | (go_at_call 267; (with_reducible refine (spec_wdGood.calls a0_3 a0_4 t490 _ A8.out).mono ?_); rintro e w11 ⟨rfl, hb⟩; replace BK486 := xkb BK486 hb; replace HB := xA (below_step (xB1 GE486.out HB.out) hb); (try clear hb)))
 go_ret
 exact ⟨xr, xB1 GE486.out HB.out⟩
end Go.Proofs.Ytjplcongellcmaa.PFnPairsRun
