/- What each Go function that the statement FnExactCountOutputs reaches answers, proved call by call. No condition beyond those that the theorems print. (Written by wip/tools/xprint.py of this repo, over the kit's print.) -/
import Derived.Test.YtjplcongellcmaaDoorPFnExactCountOutputsx0
import Derived.Test.YtjplcongellcmaaDoorPFnExactCountOutputsx1
import Derived.Test.YtjplcongellcmaaDoorPFnExactCountOutputsx4
import Derived.Test.YtjplcongellcmaaDoorPFnExactCountOutputsx5
import Derived.Test.YtjplcongellcmaaDoorPFnExactCountOutputsx6
import Derived.Test.YtjplcongellcmaaDoorPFnExactCountOutputsx8
namespace Go.Proofs.YtjplcongellcmaaDoor.PFnExactCountOutputs
open Go.RowKit Go.Proofs.YtjplcongellcmaaDoorW.PrintWords Go.Proofs.YtjplcongellcmaaDoorW.PrintLast Go.Proofs.YtjplcongellcmaaDoorW.PrintMore
attribute [local go_sem] max2_int min2_int max_two min_two max_three min_three max_four min_four   -- for this text's walks alone
set_option linter.unusedVariables false
set_option linter.unusedSimpArgs false
def x9a0 : Array Bool := #[Zz,Zz,Zz,Zz,Zz,Zz,Zz,Zz,Zz,Zz]
def x9a1 : Array Bool := #[Yy,Zz,Zz,Zz,Zz,Zz,Zz,Zz,Zz,Zz]
def x9a2 : Array Bool := #[Yy,Yy,Zz,Zz,Zz,Zz,Zz,Zz,Zz,Zz]
def x9a3 : Array Bool := #[Yy,Yy,Yy,Zz,Zz,Zz,Zz,Zz,Zz,Zz]
def x9a4 : Array Bool := #[Yy,Yy,Yy,Zz,Yy,Zz,Zz,Zz,Zz,Zz]
def x9a5 : Array Bool := #[Yy,Yy,Yy,Zz,Yy,Yy,Zz,Zz,Zz,Zz]
def x9a6 : Array Bool := #[Yy,Yy,Yy,Zz,Yy,Yy,Yy,Zz,Zz,Zz]
def x9a7 : Array Bool := #[Yy,Yy,Yy,Yy,Yy,Yy,Yy,Zz,Zz,Zz]
def x9a8 : Array Bool := #[Yy,Yy,Yy,Yy,Yy,Yy,Yy,Yy,Zz,Zz]
def x9a9 : Array Bool := #[Yy,Yy,Yy,Yy,Yy,Yy,Yy,Yy,Yy,Zz]
def x9a10 : Array Bool := #[Yy,Yy,Yy,Yy,Yy,Yy,Yy,Yy,Yy,Yy]

theorem xUn {b : Bool} (h : some undef = some (Value.bool b)) : False := by cases h
/-! ### laws_eqFirst: function 70 -/
def laws_eqFirst.f (a0_0 : Int) (a0_1 : Int) (a0_2 : Int) (a0_3 : Int) (a0_4 : Bool) (a1_0 : Int) (a1_1 : Int) (a1_2 : Int) (a1_3 : Int) (a1_4 : Bool) : Option (Bool) := if a0_0 = a1_0 then (if a0_1 = a1_1 then (if a0_2 = a1_2 then ((laws_eqWord.f a0_3 a0_4 a1_3 a1_4).bind fun t373 => (if t373 = true then (some true) else (some false))) else (some false)) else (some false)) else (some false)
set_option maxHeartbeats 200000000 in
set_option maxRecDepth 100000 in
theorem laws_eqFirst.calls (a0_0 : Int) (a0_1 : Int) (a0_2 : Int) (a0_3 : Int) (a0_4 : Bool) (a1_0 : Int) (a1_1 : Int) (a1_2 : Int) (a1_3 : Int) (a1_4 : Bool) (r : Bool) (w : World) (h : laws_eqFirst.f a0_0 a0_1 a0_2 a0_3 a0_4 a1_0 a1_1 a1_2 a1_3 a1_4 = some r) :
  Calls Tryd.prog 70 #[.agg #[.int .i64 a0_0, .int .i64 a0_1, .int .i64 a0_2, .int .i64 a0_3, .bool a0_4], .agg #[.int .i64 a1_0, .int .i64 a1_1, .int .i64 a1_2, .int .i64 a1_3, .bool a1_4]] w fun e w' => e = .returned (.bool r) ∧ Below w.heap.size w w' := by
 have hu79 := Tryd.underlying79
 have hu77 := Tryd.underlying77
 have HB := xA (Below.refl w.heap.size w)
 have H : (if a0_0 = a1_0 then (if a0_1 = a1_1 then (if a0_2 = a1_2 then ((laws_eqWord.f a0_3 a0_4 a1_3 a1_4).bind fun t373 => (if t373 = true then (some true) else (some false))) else (some false)) else (some false)) else (some false)) = some r := h
 clear h
 by_cases c3 : a0_0 = a1_0
 rotate_left
 ·as_aux_lemma =>
   rw [if_neg c3] at H
   have c3b0 : (a0_0 == a1_0) = false := beq_eq_false_iff_ne.mpr c3
   have c3b1 : (a0_0 != a1_0) = true := bne_iff_ne.mpr c3
   obtain rfl := Option.some.inj H
   go_enter Tryd.func70, Tryd.ntmps70
   go_wp2_with (first | ((with_reducible refine gate_dst (N := 2) rfl ?_); refine box_event ?hg (N := 2) ?hd (cs := #[.int .i64 a0_0, .int .i64 a0_1, .int .i64 a0_2, .int .i64 a0_3, .bool a0_4]) (t := 79) ?hr ?_; (case hd => rfl); (case hg => rfl); (case hr => first | (go_simp; done) | (go_simp; rfl)); intro gb371 hg w30 hbox hb; have n0_ := xA (below_step (xB HB.out) hb); have n1_ := xA (hbox); have n2_ := xgw hg (below_size (xB HB.out)); have n3_ := xgw hg (below_size (xB HB.out)); clear HB; have HB := n0_; have BK371 := n1_; have GW371 := n2_; have GE371 := n3_; clear n0_ n1_ n2_ n3_; clear hb hbox hg) | ((with_reducible refine gate_dst (N := 3) rfl ?_); refine box_event ?hg (N := 3) ?hd (cs := #[.int .i64 a1_0, .int .i64 a1_1, .int .i64 a1_2, .int .i64 a1_3, .bool a1_4]) (t := 79) ?hr ?_; (case hd => rfl); (case hg => rfl); (case hr => first | (go_simp; done) | (go_simp; rfl)); intro gb372 hg w31 hbox hb; have n0_ := xkb BK371 hb; have n1_ := xA (below_step (xB1 GE371.out HB.out) hb); have n2_ := xA (hbox); have n3_ := xgw hg (below_size (xB1 GE371.out HB.out)); have n4_ := xgw hg (below_size (xB1 GE371.out HB.out)); have n5_ := xnl hg BK371; have n6_ := xng hg BK371; clear BK371; clear HB; have BK371 := n0_; have HB := n1_; have BK372 := n2_; have GW372 := n3_; have GE372 := n4_; have NB371_372 := n5_; have NB372_371 := n6_; clear n0_ n1_ n2_ n3_ n4_ n5_ n6_; clear hb hbox hg; have hnb32 := NB371_372.out; have hnc32 := NB372_371.out; replace hz371 := blk_cell BK371.out; replace hy371 := blk_frozen BK371.out; replace hz372 := blk_cell BK372.out; replace hy372 := blk_frozen BK372.out))
   (try any_goals exact (xUn (by assumption)).elim)
   go_ret
   exact ⟨xr, xB2 GE371.out GE372.out HB.out⟩

 rw [if_pos c3] at H
 have c3b0 : (a0_0 == a1_0) = true := beq_iff_eq.mpr c3
 have c3b1 : (a0_0 != a1_0) = false := bne_eq_false_iff_eq.mpr c3
 clear c3
 by_cases c4 : a0_1 = a1_1
 rotate_left
 ·as_aux_lemma =>
   rw [if_neg c4] at H
   have c4b0 : (a0_1 == a1_1) = false := beq_eq_false_iff_ne.mpr c4
   have c4b1 : (a0_1 != a1_1) = true := bne_iff_ne.mpr c4
   obtain rfl := Option.some.inj H
   go_enter Tryd.func70, Tryd.ntmps70
   go_wp2_with (first | ((with_reducible refine gate_dst (N := 2) rfl ?_); refine box_event ?hg (N := 2) ?hd (cs := #[.int .i64 a0_0, .int .i64 a0_1, .int .i64 a0_2, .int .i64 a0_3, .bool a0_4]) (t := 79) ?hr ?_; (case hd => rfl); (case hg => rfl); (case hr => first | (go_simp; done) | (go_simp; rfl)); intro gb371 hg w25 hbox hb; have n0_ := xA (below_step (xB HB.out) hb); have n1_ := xA (hbox); have n2_ := xgw hg (below_size (xB HB.out)); have n3_ := xgw hg (below_size (xB HB.out)); clear HB; have HB := n0_; have BK371 := n1_; have GW371 := n2_; have GE371 := n3_; clear n0_ n1_ n2_ n3_; clear hb hbox hg) | ((with_reducible refine gate_dst (N := 3) rfl ?_); refine box_event ?hg (N := 3) ?hd (cs := #[.int .i64 a1_0, .int .i64 a1_1, .int .i64 a1_2, .int .i64 a1_3, .bool a1_4]) (t := 79) ?hr ?_; (case hd => rfl); (case hg => rfl); (case hr => first | (go_simp; done) | (go_simp; rfl)); intro gb372 hg w26 hbox hb; have n0_ := xkb BK371 hb; have n1_ := xA (below_step (xB1 GE371.out HB.out) hb); have n2_ := xA (hbox); have n3_ := xgw hg (below_size (xB1 GE371.out HB.out)); have n4_ := xgw hg (below_size (xB1 GE371.out HB.out)); have n5_ := xnl hg BK371; have n6_ := xng hg BK371; clear BK371; clear HB; have BK371 := n0_; have HB := n1_; have BK372 := n2_; have GW372 := n3_; have GE372 := n4_; have NB371_372 := n5_; have NB372_371 := n6_; clear n0_ n1_ n2_ n3_ n4_ n5_ n6_; clear hb hbox hg; have hnb27 := NB371_372.out; have hnc27 := NB372_371.out; replace hz371 := blk_cell BK371.out; replace hy371 := blk_frozen BK371.out; replace hz372 := blk_cell BK372.out; replace hy372 := blk_frozen BK372.out))
   (try any_goals exact (xUn (by assumption)).elim)
   go_ret
   exact ⟨xr, xB2 GE371.out GE372.out HB.out⟩
 as_aux_lemma =>
  rw [if_pos c4] at H
  have c4b0 : (a0_1 == a1_1) = true := beq_iff_eq.mpr c4
  have c4b1 : (a0_1 != a1_1) = false := bne_eq_false_iff_eq.mpr c4
  clear c4
  by_cases c5 : a0_2 = a1_2
  rotate_left
  ·rw [if_neg c5] at H
   have c5b0 : (a0_2 == a1_2) = false := beq_eq_false_iff_ne.mpr c5
   have c5b1 : (a0_2 != a1_2) = true := bne_iff_ne.mpr c5
   obtain rfl := Option.some.inj H
   go_enter Tryd.func70, Tryd.ntmps70
   go_wp2_with (first | ((with_reducible refine gate_dst (N := 2) rfl ?_); refine box_event ?hg (N := 2) ?hd (cs := #[.int .i64 a0_0, .int .i64 a0_1, .int .i64 a0_2, .int .i64 a0_3, .bool a0_4]) (t := 79) ?hr ?_; (case hd => rfl); (case hg => rfl); (case hr => first | (go_simp; done) | (go_simp; rfl)); intro gb371 hg w20 hbox hb; have n0_ := xA (below_step (xB HB.out) hb); have n1_ := xA (hbox); have n2_ := xgw hg (below_size (xB HB.out)); have n3_ := xgw hg (below_size (xB HB.out)); clear HB; have HB := n0_; have BK371 := n1_; have GW371 := n2_; have GE371 := n3_; clear n0_ n1_ n2_ n3_; clear hb hbox hg) | ((with_reducible refine gate_dst (N := 3) rfl ?_); refine box_event ?hg (N := 3) ?hd (cs := #[.int .i64 a1_0, .int .i64 a1_1, .int .i64 a1_2, .int .i64 a1_3, .bool a1_4]) (t := 79) ?hr ?_; (case hd => rfl); (case hg => rfl); (case hr => first | (go_simp; done) | (go_simp; rfl)); intro gb372 hg w21 hbox hb; have n0_ := xkb BK371 hb; have n1_ := xA (below_step (xB1 GE371.out HB.out) hb); have n2_ := xA (hbox); have n3_ := xgw hg (below_size (xB1 GE371.out HB.out)); have n4_ := xgw hg (below_size (xB1 GE371.out HB.out)); have n5_ := xnl hg BK371; have n6_ := xng hg BK371; clear BK371; clear HB; have BK371 := n0_; have HB := n1_; have BK372 := n2_; have GW372 := n3_; have GE372 := n4_; have NB371_372 := n5_; have NB372_371 := n6_; clear n0_ n1_ n2_ n3_ n4_ n5_ n6_; clear hb hbox hg; have hnb22 := NB371_372.out; have hnc22 := NB372_371.out; replace hz371 := blk_cell BK371.out; replace hy371 := blk_frozen BK371.out; replace hz372 := blk_cell BK372.out; replace hy372 := blk_frozen BK372.out))
   (try any_goals exact (xUn (by assumption)).elim)
   go_ret
   exact ⟨xr, xB2 GE371.out GE372.out HB.out⟩
  rw [if_pos c5] at H
  have c5b0 : (a0_2 == a1_2) = true := beq_iff_eq.mpr c5
  have c5b1 : (a0_2 != a1_2) = false := bne_eq_false_iff_eq.mpr c5
  clear c5
  replace H := Option.bind_eq_some_iff.mp H
  obtain ⟨t373, A60, H⟩ := H
  (try dsimp only at H)
  have A6 := xA A60
  clear A60
  by_cases c7 : t373 = true
  ·subst c7
   have H1 := H
   rw [if_pos rfl] at H1
   clear H
   have H := H1
   clear H1
   obtain rfl := Option.some.inj H
   go_enter Tryd.func70, Tryd.ntmps70
   go_wp2_with (first | ((with_reducible refine gate_dst (N := 2) rfl ?_); refine box_event ?hg (N := 2) ?hd (cs := #[.int .i64 a0_0, .int .i64 a0_1, .int .i64 a0_2, .int .i64 a0_3, .bool a0_4]) (t := 79) ?hr ?_; (case hd => rfl); (case hg => rfl); (case hr => first | (go_simp; done) | (go_simp; rfl)); intro gb371 hg w8 hbox hb; have n0_ := xA (below_step (xB HB.out) hb); have n1_ := xA (hbox); have n2_ := xgw hg (below_size (xB HB.out)); have n3_ := xgw hg (below_size (xB HB.out)); clear HB; have HB := n0_; have BK371 := n1_; have GW371 := n2_; have GE371 := n3_; clear n0_ n1_ n2_ n3_; clear hb hbox hg) | ((with_reducible refine gate_dst (N := 3) rfl ?_); refine box_event ?hg (N := 3) ?hd (cs := #[.int .i64 a1_0, .int .i64 a1_1, .int .i64 a1_2, .int .i64 a1_3, .bool a1_4]) (t := 79) ?hr ?_; (case hd => rfl); (case hg => rfl); (case hr => first | (go_simp; done) | (go_simp; rfl)); intro gb372 hg w9 hbox hb; have n0_ := xkb BK371 hb; have n1_ := xA (below_step (xB1 GE371.out HB.out) hb); have n2_ := xA (hbox); have n3_ := xgw hg (below_size (xB1 GE371.out HB.out)); have n4_ := xgw hg (below_size (xB1 GE371.out HB.out)); have n5_ := xnl hg BK371; have n6_ := xng hg BK371; clear BK371; clear HB; have BK371 := n0_; have HB := n1_; have BK372 := n2_; have GW372 := n3_; have GE372 := n4_; have NB371_372 := n5_; have NB372_371 := n6_; clear n0_ n1_ n2_ n3_ n4_ n5_ n6_; clear hb hbox hg; have hnb10 := NB371_372.out; have hnc10 := NB372_371.out; replace hz371 := blk_cell BK371.out; replace hy371 := blk_frozen BK371.out; replace hz372 := blk_cell BK372.out; replace hy372 := blk_frozen BK372.out) | ((with_reducible refine gate_callee (f := 91) rfl ?_); refine goesL_ (some 24) rfl rfl Tryd.func91 (by kernel_rfl) rfl #[.agg #[.int .i64 a0_3, .bool a0_4], .agg #[.int .i64 a1_3, .bool a1_4]] rfl (by (try simp only [List.map_toArray, List.map_cons, List.map_nil]); first | done | rfl | (simp only [List.length_drop, List.length_take]; rfl)) ?_; (with_reducible refine (laws_eqWord.calls a0_3 a0_4 a1_3 a1_4 true _ A6.out).mono ?_); rintro e w13 ⟨rfl, hb⟩; refine ⟨_, rfl, ?_⟩; have n0_ := xkb BK371 hb; have n1_ := xkb BK372 hb; have n2_ := xA (below_step (xB2 GE371.out GE372.out HB.out) hb); clear BK371; clear BK372; clear HB; have BK371 := n0_; have BK372 := n1_; have HB := n2_; clear n0_ n1_ n2_; (try clear hb)))
   (try any_goals exact (xUn (by assumption)).elim)
   go_ret
   exact ⟨xr, xB2 GE371.out GE372.out HB.out⟩
  replace c7 := Bool.eq_false_iff.mpr c7
  subst c7
  have H1 := H
  rw [if_neg (show ¬ (false = true) by decide)] at H1
  clear H
  have H := H1
  clear H1
  obtain rfl := Option.some.inj H
  go_enter Tryd.func70, Tryd.ntmps70
  go_wp2_with (first | ((with_reducible refine gate_dst (N := 2) rfl ?_); refine box_event ?hg (N := 2) ?hd (cs := #[.int .i64 a0_0, .int .i64 a0_1, .int .i64 a0_2, .int .i64 a0_3, .bool a0_4]) (t := 79) ?hr ?_; (case hd => rfl); (case hg => rfl); (case hr => first | (go_simp; done) | (go_simp; rfl)); intro gb371 hg w14 hbox hb; have n0_ := xA (below_step (xB HB.out) hb); have n1_ := xA (hbox); have n2_ := xgw hg (below_size (xB HB.out)); have n3_ := xgw hg (below_size (xB HB.out)); clear HB; have HB := n0_; have BK371 := n1_; have GW371 := n2_; have GE371 := n3_; clear n0_ n1_ n2_ n3_; clear hb hbox hg) | ((with_reducible refine gate_dst (N := 3) rfl ?_); refine box_event ?hg (N := 3) ?hd (cs := #[.int .i64 a1_0, .int .i64 a1_1, .int .i64 a1_2, .int .i64 a1_3, .bool a1_4]) (t := 79) ?hr ?_; (case hd => rfl); (case hg => rfl); (case hr => first | (go_simp; done) | (go_simp; rfl)); intro gb372 hg w15 hbox hb; have n0_ := xkb BK371 hb; have n1_ := xA (below_step (xB1 GE371.out HB.out) hb); have n2_ := xA (hbox); have n3_ := xgw hg (below_size (xB1 GE371.out HB.out)); have n4_ := xgw hg (below_size (xB1 GE371.out HB.out)); have n5_ := xnl hg BK371; have n6_ := xng hg BK371; clear BK371; clear HB; have BK371 := n0_; have HB := n1_; have BK372 := n2_; have GW372 := n3_; have GE372 := n4_; have NB371_372 := n5_; have NB372_371 := n6_; clear n0_ n1_ n2_ n3_ n4_ n5_ n6_; clear hb hbox hg; have hnb16 := NB371_372.out; have hnc16 := NB372_371.out; replace hz371 := blk_cell BK371.out; replace hy371 := blk_frozen BK371.out; replace hz372 := blk_cell BK372.out; replace hy372 := blk_frozen BK372.out) | ((with_reducible refine gate_callee (f := 91) rfl ?_); refine goesL_ (some 24) rfl rfl Tryd.func91 (by kernel_rfl) rfl #[.agg #[.int .i64 a0_3, .bool a0_4], .agg #[.int .i64 a1_3, .bool a1_4]] rfl (by (try simp only [List.map_toArray, List.map_cons, List.map_nil]); first | done | rfl | (simp only [List.length_drop, List.length_take]; rfl)) ?_; (with_reducible refine (laws_eqWord.calls a0_3 a0_4 a1_3 a1_4 false _ A6.out).mono ?_); rintro e w19 ⟨rfl, hb⟩; refine ⟨_, rfl, ?_⟩; have n0_ := xkb BK371 hb; have n1_ := xkb BK372 hb; have n2_ := xA (below_step (xB2 GE371.out GE372.out HB.out) hb); clear BK371; clear BK372; clear HB; have BK371 := n0_; have BK372 := n1_; have HB := n2_; clear n0_ n1_ n2_; (try clear hb)))
  (try any_goals exact (xUn (by assumption)).elim)
  go_ret
  exact ⟨xr, xB2 GE371.out GE372.out HB.out⟩
/-! ### laws_eqFirstS: function 35 -/
def laws_eqFirstS.l0 : Nat → List (S79) → List (S79) → Int → Option (Bool)
 | 0, _, _, _ => none
 | k + 1, x0, x1, x5 => if x5 < (x0.length : Int) then (if 0 ≤ x5 then (if x5 < (x1.length : Int) then ((laws_eqFirst.f ((rd_T79 x0 x5).f0) ((rd_T79 x0 x5).f1) ((rd_T79 x0 x5).f2) ((rd_T79 x0 x5).f3.f0) ((rd_T79 x0 x5).f3.f1) ((rd_T79 x1 x5).f0) ((rd_T79 x1 x5).f1) ((rd_T79 x1 x5).f2) ((rd_T79 x1 x5).f3.f0) ((rd_T79 x1 x5).f3.f1)).bind fun t376 => (if t376 = true then (laws_eqFirstS.l0 k x0 x1 (wrap64 (x5 + 1))) else (some false))) else (none)) else (none)) else (some true)
def laws_eqFirstS.f (k : Nat) (l0 : List (S79)) (l1 : List (S79)) : Option (Bool) := if (l0.length : Int) = (l1.length : Int) then (laws_eqFirstS.l0 k l0 l1 0) else (some false)
theorem laws_eqFirstS.mono_l : ∀ k, (∀ y0 y1 y2, LeO (laws_eqFirstS.l0 k y0 y1 y2) (laws_eqFirstS.l0 (k + 1) y0 y1 y2))
 | 0 => fun _ _ _ r h => by simp [laws_eqFirstS.l0] at h
 | k + 1 => by
  have ih0 := laws_eqFirstS.mono_l k
  intros
  unfold laws_eqFirstS.l0
  exact xM
theorem laws_eqFirstS.mono : ∀ a0 a1 k, LeO (laws_eqFirstS.f k a0 a1) (laws_eqFirstS.f (k + 1) a0 a1) := by
 intro a0 a1 k
 have ih0 := laws_eqFirstS.mono_l k
 unfold laws_eqFirstS.f
 exact xM
def laws_eqFirstS.T6 : Bool × List (List Nat × List Nat) := (true, [([], []), ([], []), ([0, 1], [0, 1]), ([2], [2]), ([], []), ([], []), ([4, 5], [4, 5]), ([6], [6]), ([3, 7], [3, 7]), ([8], [8])])
def laws_eqFirstS.B6 : List Nat := [0, 0, 3, 7, 0, 0, 48, 112, 255, 511]
theorem laws_eqFirstS.tab6 : rtab .any (opsOf Tryd.f35 6) = laws_eqFirstS.T6 := by kernel_rfl
theorem laws_eqFirstS.bits6 : waitsOk laws_eqFirstS.T6.2 laws_eqFirstS.B6 = true := by kernel_rfl
set_option maxHeartbeats 200000000 in
set_option maxRecDepth 100000 in
theorem laws_eqFirstS.calls (k : Nat) (A0 : Option Addr) (c0 : Nat) (l0 : List (S79)) (A1 : Option Addr) (c1 : Nat) (l1 : List (S79)) (r : Bool) (w : World) (hr0 : Kd.C k79 w A0 l0.length l0) (hc0 : l0.length ≤ c0) (hr1 : Kd.C k79 w A1 l1.length l1) (hc1 : l1.length ≤ c1) (h : laws_eqFirstS.f k l0 l1 = some r) :
  Calls Tryd.prog 35 #[.slice A0 l0.length c0, .slice A1 l1.length c1] w fun e w' => e = .returned (.bool r) ∧ Below w.heap.size w w' := by
 have hu79 := Tryd.underlying79
 have HR0 := xA hr0
 have HC0 := xA hc0
 clear hr0 hc0
 have HR1 := xA hr1
 have HC1 := xA hc1
 clear hr1 hc1
 have HB := xA (Below.refl w.heap.size w)
 have H : (if (l0.length : Int) = (l1.length : Int) then (laws_eqFirstS.l0 k l0 l1 0) else (some false)) = some r := h
 clear h
 by_cases c3 : (l0.length : Int) = (l1.length : Int)
 rotate_left
 ·as_aux_lemma =>
   rw [if_neg c3] at H
   have c3b0 : ((l0.length : Int) == (l1.length : Int)) = false := beq_eq_false_iff_ne.mpr c3
   have c3b1 : ((l0.length : Int) != (l1.length : Int)) = true := bne_iff_ne.mpr c3
   have c3b2 : (l0.length == l1.length) = false := by first | simpa using c3 | (simp at c3 ⊢; omega)
   obtain rfl := Option.some.inj H
   go_enter Tryd.func35, Tryd.ntmps35
   go_wp2
   (try any_goals exact (xUn (by assumption)).elim)
   go_ret
   exact ⟨xr, xB HB.out⟩

 rw [if_pos c3] at H
 have c3b0 : ((l0.length : Int) == (l1.length : Int)) = true := beq_iff_eq.mpr c3
 have c3b1 : ((l0.length : Int) != (l1.length : Int)) = false := bne_eq_false_iff_eq.mpr c3
 have c3b2 : (l0.length == l1.length) = true := by first | simpa using c3 | (simp at c3 ⊢; omega)
 clear c3
 have H' := xA H
 clear H
 go_enter Tryd.func35, Tryd.ntmps35
 go_wp2
 (try any_goals exact (xUn (by assumption)).elim)
 go_loopg [5] k (fun kq v5 w' => ∃ (x5_1 : Int), v5 = .int .i64 x5_1 ∧ Aside0 (laws_eqFirstS.l0 kq l0 l1 x5_1 = some r) ∧ Aside0 (kq ≤ k) ∧ Aside0 (Below w.heap.size w w'))
 case atStart => exact ⟨(0), xs, H', ⟨Nat.le_refl _⟩, ⟨xB HB.out⟩⟩
 case round =>
  clear H'
  try clear c1
  try clear c3b0
  try clear c3b1
  try clear c3b2
  obtain ⟨x5_1, rfl, HA, HK1, HB⟩ := hrel
  cases gk with
  | zero => exact absurd HA.out (by simp [laws_eqFirstS.l0])
  | succ k1 =>
   have H := HA.out
   clear HA
   simp only [laws_eqFirstS.l0] at H
   by_cases c4 : x5_1 < (l0.length : Int)
   rotate_left
   ·as_aux_lemma =>
     rw [if_neg c4] at H
     have c4b0 : decide (x5_1 < (l0.length : Int)) = false := decide_eq_false c4
     clear c4
     obtain rfl := Option.some.inj H
     go_wp2
     (try any_goals exact (xUn (by assumption)).elim)
     go_ret
     exact ⟨xr, xB HB.out⟩
   rw [if_pos c4] at H
   have c4b0 : decide (x5_1 < (l0.length : Int)) = true := decide_eq_true c4
   clear c4
   by_cases c5 : 0 ≤ x5_1
   rotate_left
   ·rw [if_neg c5] at H
    exact absurd H (by simp)
   rw [if_pos c5] at H
   have c5b0 : decide (0 ≤ x5_1) = true := decide_eq_true c5
   clear c5
   by_cases c6 : x5_1 < (l1.length : Int)
   rotate_left
   ·rw [if_neg c6] at H
    exact absurd H (by simp)
   rw [if_pos c6] at H
   have c6b0 : decide (x5_1 < (l1.length : Int)) = true := decide_eq_true c6
   clear c6
   replace H := Option.bind_eq_some_iff.mp H
   obtain ⟨t376, A70, H⟩ := H
   (try dsimp only at H)
   have A7 := xA A70
   clear A70
   by_cases c8 : t376 = true
   rotate_left
   ·replace c8 := Bool.eq_false_iff.mpr c8
    subst c8
    have H1 := H
    rw [if_neg (show ¬ (false = true) by decide)] at H1
    clear H
    have H := H1
    clear H1
    obtain rfl := Option.some.inj H
    try go_wp2
    replace HB := xA (below_drew1 HB.out)
    have p374 : 0 ≤ (x5_1 : Int) := of_decide_eq_true (by first | (with_reducible assumption) | assumption)
    have q374 : x5_1 < (l0.length : Int) := of_decide_eq_true (by first | (with_reducible assumption) | assumption)
    obtain ⟨ad374, e374, hx374_0, hx374_1, hx374_2, hx374_3, hx374_4⟩ := at_T79 HR0.out x5_1 p374 q374
    have hw374_4 := hx374_4
    have hw374_3 := hx374_3
    have hw374_2 := hx374_2
    have hw374_1 := hx374_1
    have hw374_0 := hx374_0
    cases e374
    replace hx374_0 := (HB.out.cell (World.block_lt_of_cell? w _ hx374_0)).trans hx374_0
    replace hx374_1 := (HB.out.cell (World.block_lt_of_cell? w _ hx374_1)).trans hx374_1
    replace hx374_2 := (HB.out.cell (World.block_lt_of_cell? w _ hx374_2)).trans hx374_2
    replace hx374_3 := (HB.out.cell (World.block_lt_of_cell? w _ hx374_3)).trans hx374_3
    replace hx374_4 := (HB.out.cell (World.block_lt_of_cell? w _ hx374_4)).trans hx374_4
    replace p374 := eq_true p374
    replace q374 := eq_true q374
    have p375 : 0 ≤ (x5_1 : Int) := of_decide_eq_true (by first | (with_reducible assumption) | assumption)
    have q375 : x5_1 < (l1.length : Int) := of_decide_eq_true (by first | (with_reducible assumption) | assumption)
    obtain ⟨ad375, e375, hx375_0, hx375_1, hx375_2, hx375_3, hx375_4⟩ := at_T79 HR1.out x5_1 p375 q375
    have hw375_4 := hx375_4
    have hw375_3 := hx375_3
    have hw375_2 := hx375_2
    have hw375_1 := hx375_1
    have hw375_0 := hx375_0
    cases e375
    replace hx375_0 := (HB.out.cell (World.block_lt_of_cell? w _ hx375_0)).trans hx375_0
    replace hx375_1 := (HB.out.cell (World.block_lt_of_cell? w _ hx375_1)).trans hx375_1
    replace hx375_2 := (HB.out.cell (World.block_lt_of_cell? w _ hx375_2)).trans hx375_2
    replace hx375_3 := (HB.out.cell (World.block_lt_of_cell? w _ hx375_3)).trans hx375_3
    replace hx375_4 := (HB.out.cell (World.block_lt_of_cell? w _ hx375_4)).trans hx375_4
    replace p375 := eq_true p375
    replace q375 := eq_true q375
    refine start_ (n := 10) (S := fun w' => w'.cell? (ad374.add ((x5_1).toNat * 5)) = some (.int .i64 ((rd_T79 l0 x5_1).f0)) ∧ w'.cell? ⟨(ad374.add ((x5_1).toNat * 5)).block, (ad374.add ((x5_1).toNat * 5)).off + 1, none⟩ = some (.int .i64 ((rd_T79 l0 x5_1).f1)) ∧ w'.cell? ⟨(ad374.add ((x5_1).toNat * 5)).block, (ad374.add ((x5_1).toNat * 5)).off + 2, none⟩ = some (.int .i64 ((rd_T79 l0 x5_1).f2)) ∧ w'.cell? ⟨(ad374.add ((x5_1).toNat * 5)).block, (ad374.add ((x5_1).toNat * 5)).off + 3, none⟩ = some (.int .i64 ((rd_T79 l0 x5_1).f3.f0)) ∧ w'.cell? ⟨(ad374.add ((x5_1).toNat * 5)).block, (ad374.add ((x5_1).toNat * 5)).off + 4, none⟩ = some (.bool ((rd_T79 l0 x5_1).f3.f1)) ∧ w'.cell? (ad375.add ((x5_1).toNat * 5)) = some (.int .i64 ((rd_T79 l1 x5_1).f0)) ∧ w'.cell? ⟨(ad375.add ((x5_1).toNat * 5)).block, (ad375.add ((x5_1).toNat * 5)).off + 1, none⟩ = some (.int .i64 ((rd_T79 l1 x5_1).f1)) ∧ w'.cell? ⟨(ad375.add ((x5_1).toNat * 5)).block, (ad375.add ((x5_1).toNat * 5)).off + 2, none⟩ = some (.int .i64 ((rd_T79 l1 x5_1).f2)) ∧ w'.cell? ⟨(ad375.add ((x5_1).toNat * 5)).block, (ad375.add ((x5_1).toNat * 5)).off + 3, none⟩ = some (.int .i64 ((rd_T79 l1 x5_1).f3.f0)) ∧ w'.cell? ⟨(ad375.add ((x5_1).toNat * 5)).block, (ad375.add ((x5_1).toNat * 5)).off + 4, none⟩ = some (.bool ((rd_T79 l1 x5_1).f3.f1))) (ds := []) x9a0 (by kernel_rfl) rfl rfl ⟨((HB.out.cell (World.block_lt_of_cell? w _ hw374_0)).trans hw374_0), ((HB.out.cell (World.block_lt_of_cell? w _ hw374_1)).trans hw374_1), ((HB.out.cell (World.block_lt_of_cell? w _ hw374_2)).trans hw374_2), ((HB.out.cell (World.block_lt_of_cell? w _ hw374_3)).trans hw374_3), ((HB.out.cell (World.block_lt_of_cell? w _ hw374_4)).trans hw374_4), ((HB.out.cell (World.block_lt_of_cell? w _ hw375_0)).trans hw375_0), ((HB.out.cell (World.block_lt_of_cell? w _ hw375_1)).trans hw375_1), ((HB.out.cell (World.block_lt_of_cell? w _ hw375_2)).trans hw375_2), ((HB.out.cell (World.block_lt_of_cell? w _ hw375_3)).trans hw375_3), ((HB.out.cell (World.block_lt_of_cell? w _ hw375_4)).trans hw375_4)⟩ (fun hHeld => ?_); refine with_tabW laws_eqFirstS.tab6 laws_eqFirstS.bits6 (fun HT_ HW_ => ?_)
    generalize wr.drew = w11 at HB hx374_0 hx374_1 hx374_2 hx374_3 hx374_4 hx375_0 hx375_1 hx375_2 hx375_3 hx375_4 hHeld ⊢
    refine xP 0 17 x9a1 ?_
    refine xP 1 18 x9a2 ?_
    refine xP 2 19 x9a3 ?_
    refine xP 4 21 x9a4 ?_
    refine xP 5 22 x9a5 ?_
    refine xP 6 23 x9a6 ?_
    refine xT10 hHeld 3 20 x9a7 ?_
    refine xT10 hHeld 7 24 x9a8 ?_
    refine xU 8 25 x9a9 (fun K hK => ?_)
    refine xY Tryd.func70 #[.agg #[.int .i64 ((rd_T79 l0 x5_1).f0), .int .i64 ((rd_T79 l0 x5_1).f1), .int .i64 ((rd_T79 l0 x5_1).f2), .int .i64 ((rd_T79 l0 x5_1).f3.f0), .bool ((rd_T79 l0 x5_1).f3.f1)], .agg #[.int .i64 ((rd_T79 l1 x5_1).f0), .int .i64 ((rd_T79 l1 x5_1).f1), .int .i64 ((rd_T79 l1 x5_1).f2), .int .i64 ((rd_T79 l1 x5_1).f3.f0), .bool ((rd_T79 l1 x5_1).f3.f1)]] ?_
    with_reducible refine (laws_eqFirst.calls ((rd_T79 l0 x5_1).f0) ((rd_T79 l0 x5_1).f1) ((rd_T79 l0 x5_1).f2) ((rd_T79 l0 x5_1).f3.f0) ((rd_T79 l0 x5_1).f3.f1) ((rd_T79 l1 x5_1).f0) ((rd_T79 l1 x5_1).f1) ((rd_T79 l1 x5_1).f2) ((rd_T79 l1 x5_1).f3.f0) ((rd_T79 l1 x5_1).f3.f1) false _ A7.out).mono ?_
    rintro e w12 ⟨rfl, hb⟩
    refine ⟨_, rfl, ?_⟩
    replace HB := xA (below_step (xB HB.out) hb)
    (try clear hb); (try clear hb2); (try clear hk); (try clear hi)
    refine hK.out _ _ ⟨((HB.out.cell (World.block_lt_of_cell? w _ hw374_0)).trans hw374_0), ((HB.out.cell (World.block_lt_of_cell? w _ hw374_1)).trans hw374_1), ((HB.out.cell (World.block_lt_of_cell? w _ hw374_2)).trans hw374_2), ((HB.out.cell (World.block_lt_of_cell? w _ hw374_3)).trans hw374_3), ((HB.out.cell (World.block_lt_of_cell? w _ hw374_4)).trans hw374_4), ((HB.out.cell (World.block_lt_of_cell? w _ hw375_0)).trans hw375_0), ((HB.out.cell (World.block_lt_of_cell? w _ hw375_1)).trans hw375_1), ((HB.out.cell (World.block_lt_of_cell? w _ hw375_2)).trans hw375_2), ((HB.out.cell (World.block_lt_of_cell? w _ hw375_3)).trans hw375_3), ((HB.out.cell (World.block_lt_of_cell? w _ hw375_4)).trans hw375_4)⟩ (fun hHeld => ?_)
    clear hK K
    refine xN ?_
    refine xP 9 26 x9a10 ?_
    refine xDn ?_
    try go_wp2
    go_ret
    exact ⟨xr, xB HB.out⟩
   subst c8
   have H1 := H
   rw [if_pos rfl] at H1
   clear H
   have H := H1
   clear H1
   have H' := xA H
   clear H
   try go_wp2
   replace HB := xA (below_drew1 HB.out)
   have p374 : 0 ≤ (x5_1 : Int) := of_decide_eq_true (by first | (with_reducible assumption) | assumption)
   have q374 : x5_1 < (l0.length : Int) := of_decide_eq_true (by first | (with_reducible assumption) | assumption)
   obtain ⟨ad374, e374, hx374_0, hx374_1, hx374_2, hx374_3, hx374_4⟩ := at_T79 HR0.out x5_1 p374 q374
   have hw374_4 := hx374_4
   have hw374_3 := hx374_3
   have hw374_2 := hx374_2
   have hw374_1 := hx374_1
   have hw374_0 := hx374_0
   cases e374
   replace hx374_0 := (HB.out.cell (World.block_lt_of_cell? w _ hx374_0)).trans hx374_0
   replace hx374_1 := (HB.out.cell (World.block_lt_of_cell? w _ hx374_1)).trans hx374_1
   replace hx374_2 := (HB.out.cell (World.block_lt_of_cell? w _ hx374_2)).trans hx374_2
   replace hx374_3 := (HB.out.cell (World.block_lt_of_cell? w _ hx374_3)).trans hx374_3
   replace hx374_4 := (HB.out.cell (World.block_lt_of_cell? w _ hx374_4)).trans hx374_4
   replace p374 := eq_true p374
   replace q374 := eq_true q374
   have p375 : 0 ≤ (x5_1 : Int) := of_decide_eq_true (by first | (with_reducible assumption) | assumption)
   have q375 : x5_1 < (l1.length : Int) := of_decide_eq_true (by first | (with_reducible assumption) | assumption)
   obtain ⟨ad375, e375, hx375_0, hx375_1, hx375_2, hx375_3, hx375_4⟩ := at_T79 HR1.out x5_1 p375 q375
   have hw375_4 := hx375_4
   have hw375_3 := hx375_3
   have hw375_2 := hx375_2
   have hw375_1 := hx375_1
   have hw375_0 := hx375_0
   cases e375
   replace hx375_0 := (HB.out.cell (World.block_lt_of_cell? w _ hx375_0)).trans hx375_0
   replace hx375_1 := (HB.out.cell (World.block_lt_of_cell? w _ hx375_1)).trans hx375_1
   replace hx375_2 := (HB.out.cell (World.block_lt_of_cell? w _ hx375_2)).trans hx375_2
   replace hx375_3 := (HB.out.cell (World.block_lt_of_cell? w _ hx375_3)).trans hx375_3
   replace hx375_4 := (HB.out.cell (World.block_lt_of_cell? w _ hx375_4)).trans hx375_4
   replace p375 := eq_true p375
   replace q375 := eq_true q375
   refine start_ (n := 10) (S := fun w' => w'.cell? (ad374.add ((x5_1).toNat * 5)) = some (.int .i64 ((rd_T79 l0 x5_1).f0)) ∧ w'.cell? ⟨(ad374.add ((x5_1).toNat * 5)).block, (ad374.add ((x5_1).toNat * 5)).off + 1, none⟩ = some (.int .i64 ((rd_T79 l0 x5_1).f1)) ∧ w'.cell? ⟨(ad374.add ((x5_1).toNat * 5)).block, (ad374.add ((x5_1).toNat * 5)).off + 2, none⟩ = some (.int .i64 ((rd_T79 l0 x5_1).f2)) ∧ w'.cell? ⟨(ad374.add ((x5_1).toNat * 5)).block, (ad374.add ((x5_1).toNat * 5)).off + 3, none⟩ = some (.int .i64 ((rd_T79 l0 x5_1).f3.f0)) ∧ w'.cell? ⟨(ad374.add ((x5_1).toNat * 5)).block, (ad374.add ((x5_1).toNat * 5)).off + 4, none⟩ = some (.bool ((rd_T79 l0 x5_1).f3.f1)) ∧ w'.cell? (ad375.add ((x5_1).toNat * 5)) = some (.int .i64 ((rd_T79 l1 x5_1).f0)) ∧ w'.cell? ⟨(ad375.add ((x5_1).toNat * 5)).block, (ad375.add ((x5_1).toNat * 5)).off + 1, none⟩ = some (.int .i64 ((rd_T79 l1 x5_1).f1)) ∧ w'.cell? ⟨(ad375.add ((x5_1).toNat * 5)).block, (ad375.add ((x5_1).toNat * 5)).off + 2, none⟩ = some (.int .i64 ((rd_T79 l1 x5_1).f2)) ∧ w'.cell? ⟨(ad375.add ((x5_1).toNat * 5)).block, (ad375.add ((x5_1).toNat * 5)).off + 3, none⟩ = some (.int .i64 ((rd_T79 l1 x5_1).f3.f0)) ∧ w'.cell? ⟨(ad375.add ((x5_1).toNat * 5)).block, (ad375.add ((x5_1).toNat * 5)).off + 4, none⟩ = some (.bool ((rd_T79 l1 x5_1).f3.f1))) (ds := []) x9a0 (by kernel_rfl) rfl rfl ⟨((HB.out.cell (World.block_lt_of_cell? w _ hw374_0)).trans hw374_0), ((HB.out.cell (World.block_lt_of_cell? w _ hw374_1)).trans hw374_1), ((HB.out.cell (World.block_lt_of_cell? w _ hw374_2)).trans hw374_2), ((HB.out.cell (World.block_lt_of_cell? w _ hw374_3)).trans hw374_3), ((HB.out.cell (World.block_lt_of_cell? w _ hw374_4)).trans hw374_4), ((HB.out.cell (World.block_lt_of_cell? w _ hw375_0)).trans hw375_0), ((HB.out.cell (World.block_lt_of_cell? w _ hw375_1)).trans hw375_1), ((HB.out.cell (World.block_lt_of_cell? w _ hw375_2)).trans hw375_2), ((HB.out.cell (World.block_lt_of_cell? w _ hw375_3)).trans hw375_3), ((HB.out.cell (World.block_lt_of_cell? w _ hw375_4)).trans hw375_4)⟩ (fun hHeld => ?_); refine with_tabW laws_eqFirstS.tab6 laws_eqFirstS.bits6 (fun HT_ HW_ => ?_)
   generalize wr.drew = w9 at HB hx374_0 hx374_1 hx374_2 hx374_3 hx374_4 hx375_0 hx375_1 hx375_2 hx375_3 hx375_4 hHeld ⊢
   refine xP 0 17 x9a1 ?_
   refine xP 1 18 x9a2 ?_
   refine xP 2 19 x9a3 ?_
   refine xP 4 21 x9a4 ?_
   refine xP 5 22 x9a5 ?_
   refine xP 6 23 x9a6 ?_
   refine xT10 hHeld 3 20 x9a7 ?_
   refine xT10 hHeld 7 24 x9a8 ?_
   refine xU 8 25 x9a9 (fun K hK => ?_)
   refine xY Tryd.func70 #[.agg #[.int .i64 ((rd_T79 l0 x5_1).f0), .int .i64 ((rd_T79 l0 x5_1).f1), .int .i64 ((rd_T79 l0 x5_1).f2), .int .i64 ((rd_T79 l0 x5_1).f3.f0), .bool ((rd_T79 l0 x5_1).f3.f1)], .agg #[.int .i64 ((rd_T79 l1 x5_1).f0), .int .i64 ((rd_T79 l1 x5_1).f1), .int .i64 ((rd_T79 l1 x5_1).f2), .int .i64 ((rd_T79 l1 x5_1).f3.f0), .bool ((rd_T79 l1 x5_1).f3.f1)]] ?_
   with_reducible refine (laws_eqFirst.calls ((rd_T79 l0 x5_1).f0) ((rd_T79 l0 x5_1).f1) ((rd_T79 l0 x5_1).f2) ((rd_T79 l0 x5_1).f3.f0) ((rd_T79 l0 x5_1).f3.f1) ((rd_T79 l1 x5_1).f0) ((rd_T79 l1 x5_1).f1) ((rd_T79 l1 x5_1).f2) ((rd_T79 l1 x5_1).f3.f0) ((rd_T79 l1 x5_1).f3.f1) true _ A7.out).mono ?_
   rintro e w10 ⟨rfl, hb⟩
   refine ⟨_, rfl, ?_⟩
   replace HB := xA (below_step (xB HB.out) hb)
   (try clear hb); (try clear hb2); (try clear hk); (try clear hi)
   refine hK.out _ _ ⟨((HB.out.cell (World.block_lt_of_cell? w _ hw374_0)).trans hw374_0), ((HB.out.cell (World.block_lt_of_cell? w _ hw374_1)).trans hw374_1), ((HB.out.cell (World.block_lt_of_cell? w _ hw374_2)).trans hw374_2), ((HB.out.cell (World.block_lt_of_cell? w _ hw374_3)).trans hw374_3), ((HB.out.cell (World.block_lt_of_cell? w _ hw374_4)).trans hw374_4), ((HB.out.cell (World.block_lt_of_cell? w _ hw375_0)).trans hw375_0), ((HB.out.cell (World.block_lt_of_cell? w _ hw375_1)).trans hw375_1), ((HB.out.cell (World.block_lt_of_cell? w _ hw375_2)).trans hw375_2), ((HB.out.cell (World.block_lt_of_cell? w _ hw375_3)).trans hw375_3), ((HB.out.cell (World.block_lt_of_cell? w _ hw375_4)).trans hw375_4)⟩ (fun hHeld => ?_)
   clear hK K
   refine xN ?_
   refine xP 9 26 x9a10 ?_
   refine xDn ?_
   try go_wp2
   go_roundg k1
   case measure => have := HK1.out; omega
   case rel => exact ⟨(wrap64 (x5_1 + 1)), xs, H', ⟨by have := HK1.out; omega⟩, ⟨xB HB.out⟩⟩
/-! ### laws_eqIntS: function 36 -/
def laws_eqIntS.l0 : Nat → List Int → List Int → Int → Option (Bool)
 | 0, _, _, _ => none
 | k + 1, x0, x1, x5 => if x5 < (x0.length : Int) then (if 0 ≤ x5 then (if x5 < (x1.length : Int) then (if (rd x0 x5) = (rd x1 x5) then (laws_eqIntS.l0 k x0 x1 (wrap64 (x5 + 1))) else (some false)) else (none)) else (none)) else (some true)
def laws_eqIntS.f (k : Nat) (l0 : List Int) (l1 : List Int) : Option (Bool) := if (l0.length : Int) = (l1.length : Int) then (laws_eqIntS.l0 k l0 l1 0) else (some false)
theorem laws_eqIntS.mono_l : ∀ k, (∀ y0 y1 y2, LeO (laws_eqIntS.l0 k y0 y1 y2) (laws_eqIntS.l0 (k + 1) y0 y1 y2))
 | 0 => fun _ _ _ r h => by simp [laws_eqIntS.l0] at h
 | k + 1 => by
  have ih0 := laws_eqIntS.mono_l k
  intros
  unfold laws_eqIntS.l0
  exact xM
theorem laws_eqIntS.mono : ∀ a0 a1 k, LeO (laws_eqIntS.f k a0 a1) (laws_eqIntS.f (k + 1) a0 a1) := by
 intro a0 a1 k
 have ih0 := laws_eqIntS.mono_l k
 unfold laws_eqIntS.f
 exact xM
set_option maxHeartbeats 200000000 in
set_option maxRecDepth 100000 in
theorem laws_eqIntS.calls (k : Nat) (A0 : Option Addr) (c0 : Nat) (l0 : List Int) (A1 : Option Addr) (c1 : Nat) (l1 : List Int) (r : Bool) (w : World) (hr0 : Kd.C (Kd.int .i64) w A0 l0.length l0) (hc0 : l0.length ≤ c0) (hr1 : Kd.C (Kd.int .i64) w A1 l1.length l1) (hc1 : l1.length ≤ c1) (h : laws_eqIntS.f k l0 l1 = some r) :
  Calls Tryd.prog 36 #[.slice A0 l0.length c0, .slice A1 l1.length c1] w fun e w' => e = .returned (.bool r) ∧ Drawn0 w w' := by
 have HR0 := xA hr0
 have HC0 := xA hc0
 clear hr0 hc0
 have HR1 := xA hr1
 have HC1 := xA hc1
 clear hr1 hc1
 have H : (if (l0.length : Int) = (l1.length : Int) then (laws_eqIntS.l0 k l0 l1 0) else (some false)) = some r := h
 clear h
 by_cases c3 : (l0.length : Int) = (l1.length : Int)
 rotate_left
 ·as_aux_lemma =>
   rw [if_neg c3] at H
   have c3b0 : ((l0.length : Int) == (l1.length : Int)) = false := beq_eq_false_iff_ne.mpr c3
   have c3b1 : ((l0.length : Int) != (l1.length : Int)) = true := bne_iff_ne.mpr c3
   have c3b2 : (l0.length == l1.length) = false := by first | simpa using c3 | (simp at c3 ⊢; omega)
   obtain rfl := Option.some.inj H
   go_enter Tryd.func36, Tryd.ntmps36
   go_wp2
   (try any_goals exact (xUn (by assumption)).elim)
   repeat (go_quiet (fail); try go_wp2)
   (try any_goals exact (xUn (by assumption)).elim)
   go_ret
   exact ⟨by first | rfl | (simp; done) | (simp [*]; done), by repeat (first | exact Drawn0.refl _ | apply Drawn0.step)⟩

 rw [if_pos c3] at H
 have c3b0 : ((l0.length : Int) == (l1.length : Int)) = true := beq_iff_eq.mpr c3
 have c3b1 : ((l0.length : Int) != (l1.length : Int)) = false := bne_eq_false_iff_eq.mpr c3
 have c3b2 : (l0.length == l1.length) = true := by first | simpa using c3 | (simp at c3 ⊢; omega)
 clear c3
 have H' := xA H
 clear H
 go_enter Tryd.func36, Tryd.ntmps36
 go_wp2
 (try any_goals exact (xUn (by assumption)).elim)
 repeat (go_quiet (fail); try go_wp2)
 (try any_goals exact (xUn (by assumption)).elim)
 go_loopg [5] k (fun kq v5 w' => ∃ (x5_1 : Int), v5 = .int .i64 x5_1 ∧ Aside0 (laws_eqIntS.l0 kq l0 l1 x5_1 = some r) ∧ Aside0 (kq ≤ k) ∧ Drawn0 w w')
 case atStart => exact ⟨(0), xs, H', ⟨Nat.le_refl _⟩, by repeat (first | exact Drawn0.refl _ | apply Drawn0.step)⟩
 case round =>
  clear H'
  try clear c1
  try clear c3b0
  try clear c3b1
  try clear c3b2
  obtain ⟨x5_1, rfl, HA, HK1, ⟨m1, rfl⟩⟩ := hrel
  cases gk with
  | zero => exact absurd HA.out (by simp [laws_eqIntS.l0])
  | succ k1 =>
   have H := HA.out
   clear HA
   simp only [laws_eqIntS.l0] at H
   by_cases c4 : x5_1 < (l0.length : Int)
   rotate_left
   ·as_aux_lemma =>
     rw [if_neg c4] at H
     have c4b0 : decide (x5_1 < (l0.length : Int)) = false := decide_eq_false c4
     clear c4
     obtain rfl := Option.some.inj H
     go_wp2
     (try any_goals exact (xUn (by assumption)).elim)
     repeat (go_quiet (fail); try go_wp2)
     (try any_goals exact (xUn (by assumption)).elim)
     go_ret
     exact ⟨by first | rfl | (simp; done) | (simp [*]; done), by repeat (first | exact Drawn0.refl _ | apply Drawn0.step)⟩
   rw [if_pos c4] at H
   have c4b0 : decide (x5_1 < (l0.length : Int)) = true := decide_eq_true c4
   clear c4
   by_cases c5 : 0 ≤ x5_1
   rotate_left
   ·rw [if_neg c5] at H
    exact absurd H (by simp)
   as_aux_lemma =>
    rw [if_pos c5] at H
    have c5b0 : decide (0 ≤ x5_1) = true := decide_eq_true c5
    clear c5
    by_cases c6 : x5_1 < (l1.length : Int)
    rotate_left
    ·rw [if_neg c6] at H
     exact absurd H (by simp)
    rw [if_pos c6] at H
    have c6b0 : decide (x5_1 < (l1.length : Int)) = true := decide_eq_true c6
    clear c6
    by_cases c7 : (rd l0 x5_1) = (rd l1 x5_1)
    rotate_left
    ·rw [if_neg c7] at H
     have c7b0 : ((rd l0 x5_1) == (rd l1 x5_1)) = false := beq_eq_false_iff_ne.mpr c7
     have c7b1 : ((rd l0 x5_1) != (rd l1 x5_1)) = true := bne_iff_ne.mpr c7
     obtain rfl := Option.some.inj H
     have p377 : 0 ≤ (x5_1 : Int) := of_decide_eq_true (by first | (with_reducible assumption) | assumption)
     have q377 : x5_1 < (l0.length : Int) := of_decide_eq_true (by first | (with_reducible assumption) | assumption)
     obtain ⟨ad377, e377, hx377_0⟩ := Kd.at_int HR0.out x5_1 p377 q377
     cases e377
     replace p377 := eq_true p377
     replace q377 := eq_true q377
     have p378 : 0 ≤ (x5_1 : Int) := of_decide_eq_true (by first | (with_reducible assumption) | assumption)
     have q378 : x5_1 < (l1.length : Int) := of_decide_eq_true (by first | (with_reducible assumption) | assumption)
     obtain ⟨ad378, e378, hx378_0⟩ := Kd.at_int HR1.out x5_1 p378 q378
     cases e378
     replace p378 := eq_true p378
     replace q378 := eq_true q378
     go_wp2
     (try any_goals exact (xUn (by assumption)).elim)
     repeat (go_quiet (fail); try go_wp2)
     (try any_goals exact (xUn (by assumption)).elim)
     go_ret
     exact ⟨by first | rfl | (simp; done) | (simp [*]; done), by repeat (first | exact Drawn0.refl _ | apply Drawn0.step)⟩
    rw [if_pos c7] at H
    have c7b0 : ((rd l0 x5_1) == (rd l1 x5_1)) = true := beq_iff_eq.mpr c7
    have c7b1 : ((rd l0 x5_1) != (rd l1 x5_1)) = false := bne_eq_false_iff_eq.mpr c7
    clear c7
    have H' := xA H
    clear H
    have p377 : 0 ≤ (x5_1 : Int) := of_decide_eq_true (by first | (with_reducible assumption) | assumption)
    have q377 : x5_1 < (l0.length : Int) := of_decide_eq_true (by first | (with_reducible assumption) | assumption)
    obtain ⟨ad377, e377, hx377_0⟩ := Kd.at_int HR0.out x5_1 p377 q377
    cases e377
    replace p377 := eq_true p377
    replace q377 := eq_true q377
    have p378 : 0 ≤ (x5_1 : Int) := of_decide_eq_true (by first | (with_reducible assumption) | assumption)
    have q378 : x5_1 < (l1.length : Int) := of_decide_eq_true (by first | (with_reducible assumption) | assumption)
    obtain ⟨ad378, e378, hx378_0⟩ := Kd.at_int HR1.out x5_1 p378 q378
    cases e378
    replace p378 := eq_true p378
    replace q378 := eq_true q378
    go_wp2
    (try any_goals exact (xUn (by assumption)).elim)
    repeat (go_quiet (fail); try go_wp2)
    (try any_goals exact (xUn (by assumption)).elim)
    go_roundg k1
    case measure => have := HK1.out; omega
    case rel => exact ⟨(wrap64 (x5_1 + 1)), xs, H', ⟨by have := HK1.out; omega⟩, by repeat (first | exact Drawn0.refl _ | apply Drawn0.step)⟩
/-! ### laws_FnExactCountOutputs: function 4 -/
def laws_FnExactCountOutputs.j0 : Nat → List (S83) → List Int → List (S79) → List Int → Bool → Option (Bool)
 | 0, _, _, _, _, _ => none
 | k + 1, x0, x1, x8, x9, x45 => if x45 = true then (some false) else ((laws_toFirstS.f k x0).bind fun t396 => ((laws_eqFirstS.f k x8 t396).bind fun t399 => (if t399 = true then ((laws_toIntS.f k x1).bind fun t400 => ((laws_eqIntS.f k x9 t400).bind fun t403 => (if t403 = true then (some true) else (some false)))) else (some false))))
def laws_FnExactCountOutputs.f (k : Nat) (l0 : List (S83)) (l1 : List Int) : Option (Bool) := if (l1.length : Int) > 1048576 then (some true) else ((laws_szFirstS.f l0 1048576).bind fun t379 => (if t379 < 0 then (some true) else ((laws_toFirstS.f k l0).bind fun t380 => ((laws_toIntS.f k l1).bind fun t383 => ((spec_CountOutputs.f k t380 t383).bind fun bt386 => ((laws_toFirstS.f k l0).bind fun t388 => ((laws_toIntS.f k l1).bind fun t391 => ((impl_CountOutputs.f k t388 t391).bind fun bt394 => (if bt394.1 = bt386.1 then (laws_FnExactCountOutputs.j0 k l0 l1 t388 t391 (bt394.2 != bt386.2)) else (laws_FnExactCountOutputs.j0 k l0 l1 t388 t391 true))))))))))
theorem laws_FnExactCountOutputs.mono_l : ∀ k, (∀ y0 y1 y2 y3 y4, LeO (laws_FnExactCountOutputs.j0 k y0 y1 y2 y3 y4) (laws_FnExactCountOutputs.j0 (k + 1) y0 y1 y2 y3 y4))
 | 0 => fun _ _ _ _ _ r h => by simp [laws_FnExactCountOutputs.j0] at h
 | k + 1 => by
  have ih0 := laws_FnExactCountOutputs.mono_l k
  have m0 := @impl_CountOutputs.mono
  have m1 := @laws_eqFirstS.mono
  have m2 := @laws_eqIntS.mono
  have m3 := @laws_toFirstS.mono
  have m4 := @laws_toIntS.mono
  have m5 := @spec_CountOutputs.mono
  intros
  unfold laws_FnExactCountOutputs.j0
  exact xM
theorem laws_FnExactCountOutputs.mono : ∀ a0 a1 k, LeO (laws_FnExactCountOutputs.f k a0 a1) (laws_FnExactCountOutputs.f (k + 1) a0 a1) := by
 intro a0 a1 k
 have ih0 := laws_FnExactCountOutputs.mono_l k
 have m0 := @impl_CountOutputs.mono
 have m1 := @laws_eqFirstS.mono
 have m2 := @laws_eqIntS.mono
 have m3 := @laws_toFirstS.mono
 have m4 := @laws_toIntS.mono
 have m5 := @spec_CountOutputs.mono
 unfold laws_FnExactCountOutputs.f
 exact xM
set_option maxHeartbeats 200000000 in
set_option maxRecDepth 100000 in
theorem laws_FnExactCountOutputs.calls (k : Nat) (A0 : Option Addr) (c0 : Nat) (l0 : List (S83)) (A1 : Option Addr) (c1 : Nat) (l1 : List Int) (r : Bool) (w : World) (hr0 : Kd.C k83 w A0 l0.length l0) (hc0 : l0.length ≤ c0) (hr1 : Kd.C (Kd.int .i64) w A1 l1.length l1) (hc1 : l1.length ≤ c1) (hgl_ : GLob w) (h : laws_FnExactCountOutputs.f k l0 l1 = some r) (hr_ : r = true) :
  Calls Tryd.prog 4 #[.slice A0 l0.length c0, .slice A1 l1.length c1] w fun e w' => e = .returned (.bool r) ∧ Below w.heap.size w w' := by
 have HGL := xA hgl_
 clear hgl_
 have HRT := xA hr_
 clear hr_
 have HR0 := xA hr0
 have HC0 := xA hc0
 clear hr0 hc0
 have HR1 := xA hr1
 have HC1 := xA hc1
 clear hr1 hc1
 have HB := xA (Below.refl w.heap.size w)
 have H : (if (l1.length : Int) > 1048576 then (some true) else ((laws_szFirstS.f l0 1048576).bind fun t379 => (if t379 < 0 then (some true) else ((laws_toFirstS.f k l0).bind fun t380 => ((laws_toIntS.f k l1).bind fun t383 => ((spec_CountOutputs.f k t380 t383).bind fun bt386 => ((laws_toFirstS.f k l0).bind fun t388 => ((laws_toIntS.f k l1).bind fun t391 => ((impl_CountOutputs.f k t388 t391).bind fun bt394 => (if bt394.1 = bt386.1 then (laws_FnExactCountOutputs.j0 k l0 l1 t388 t391 (bt394.2 != bt386.2)) else (laws_FnExactCountOutputs.j0 k l0 l1 t388 t391 true))))))))))) = some r := h
 clear h
 by_cases c3 : (l1.length : Int) > 1048576
 ·as_aux_lemma =>
   rw [if_pos c3] at H
   have c3b0 : decide (1048576 < (l1.length : Int)) = true := decide_eq_true c3
   have c3b1 : decide (1048576 < l1.length) = true := decide_eq_true (by omega)
   clear c3
   obtain rfl := Option.some.inj H
   go_enter Tryd.func4, Tryd.ntmps4
   go_wp2
   (try any_goals exact (xUn (by assumption)).elim)
   go_ret
   exact ⟨xr, xB HB.out⟩
 rw [if_neg c3] at H
 have c3b0 : decide (1048576 < (l1.length : Int)) = false := decide_eq_false c3
 have c3b1 : decide (1048576 < l1.length) = false := decide_eq_false (by omega)
 clear c3
 replace H := Option.bind_eq_some_iff.mp H
 obtain ⟨t379, A40, H⟩ := H
 (try dsimp only at H)
 have A4 := xA A40
 clear A40
 by_cases c5 : t379 < 0
 ·as_aux_lemma =>
   rw [if_pos c5] at H
   have c5b0 : decide (t379 < 0) = true := decide_eq_true c5
   clear c5
   obtain rfl := Option.some.inj H
   go_enter Tryd.func4, Tryd.ntmps4
   go_wp2_with (first | ((with_reducible refine gate_callee (f := 30) rfl ?_); refine goesL_ (some 17) rfl rfl Tryd.func30 (by kernel_rfl) rfl #[.slice A0 l0.length c0, .int .i64 1048576] rfl (by (try simp only [List.map_toArray, List.map_cons, List.map_nil]); first | done | rfl | (simp only [List.length_drop, List.length_take]; rfl)) ?_; (with_reducible refine (laws_szFirstS.calls _ _ l0 1048576 t379 _ ?side1 ?side2 A4.out).mono ?_); (case side1 => exact xC HR0.out); (case side2 => exact HC0.out); rintro e w' ⟨rfl, ⟨nd, rfl⟩⟩; refine ⟨_, rfl, ?_⟩))
   (try any_goals exact (xUn (by assumption)).elim)
   go_ret
   exact ⟨xr, xB HB.out⟩
 rw [if_neg c5] at H
 have c5b0 : decide (t379 < 0) = false := decide_eq_false c5
 clear c5
 replace H := Option.bind_eq_some_iff.mp H
 obtain ⟨t380, A60, H⟩ := H
 (try dsimp only at H)
 have A6 := xA A60
 clear A60
 replace H := Option.bind_eq_some_iff.mp H
 obtain ⟨t383, A70, H⟩ := H
 (try dsimp only at H)
 have A7 := xA A70
 clear A70
 replace H := Option.bind_eq_some_iff.mp H
 obtain ⟨⟨t386, t387⟩, A80, H⟩ := H
 (try dsimp only at H)
 have A8 := xA A80
 clear A80
 replace H := Option.bind_eq_some_iff.mp H
 obtain ⟨t388, A90, H⟩ := H
 (try dsimp only at H)
 have A9 := xA A90
 obtain rfl : t380 = t388 := Option.some.inj (A6.out.symm.trans A9.out)
 clear A90
 replace H := Option.bind_eq_some_iff.mp H
 obtain ⟨t391, A100, H⟩ := H
 (try dsimp only at H)
 have A10 := xA A100
 obtain rfl : t383 = t391 := Option.some.inj (A7.out.symm.trans A10.out)
 clear A100
 replace H := Option.bind_eq_some_iff.mp H
 obtain ⟨⟨t394, t395⟩, A110, H⟩ := H
 (try dsimp only at H)
 have A11 := xA A110
 clear A110
 have HC12 := xA H
 clear H
 go_enter Tryd.func4, Tryd.ntmps4
 go_upto_region 11 with (first | ((with_reducible refine gate_callee (f := 30) rfl ?_); refine goesL_ (some 17) rfl rfl Tryd.func30 (by kernel_rfl) rfl #[.slice A0 l0.length c0, .int .i64 1048576] rfl (by (try simp only [List.map_toArray, List.map_cons, List.map_nil]); first | done | rfl | (simp only [List.length_drop, List.length_take]; rfl)) ?_; (with_reducible refine (laws_szFirstS.calls _ _ l0 1048576 t379 _ ?side1 ?side2 A4.out).mono ?_); (case side1 => exact xC HR0.out); (case side2 => exact HC0.out); rintro e w' ⟨rfl, ⟨nd, rfl⟩⟩; refine ⟨_, rfl, ?_⟩) | ((with_reducible refine gate_callee (f := 32) rfl ?_); refine goesL_ (some 22) rfl rfl Tryd.func32 (by kernel_rfl) rfl #[.slice A0 l0.length c0] rfl (by (try simp only [List.map_toArray, List.map_cons, List.map_nil]); first | done | rfl | (simp only [List.length_drop, List.length_take]; rfl)) ?_; (with_reducible refine (laws_toFirstS.calls k _ _ l0 t380 _ ?side1 ?side2 A6.out).mono ?_); (case side1 => exact xC HR0.out); (case side2 => exact HC0.out); rintro e w13 ⟨v381, rfl, ho0, hb⟩; refine ⟨_, rfl, ?_⟩; have n0_ := xA (Kd.R_lower ho0 (below_size (xB HB.out))); have n1_ := xA (below_step (xB HB.out) hb); clear HB; have HO382 := n0_; have HB := n1_; clear n0_ n1_; (try clear hb); (try clear ho0)) | ((with_reducible refine gate_callee (f := 33) rfl ?_); refine goesL_ (some 24) rfl rfl Tryd.func33 (by kernel_rfl) rfl #[.slice A1 l1.length c1] rfl (by (try simp only [List.map_toArray, List.map_cons, List.map_nil]); first | done | rfl | (simp only [List.length_drop, List.length_take]; rfl)) ?_; (with_reducible refine (laws_toIntS.calls k _ _ l1 t383 _ ?side1 ?side2 A7.out).mono ?_); (case side1 => exact xC (Kd.C_below HR1.out HB.out)); (case side2 => exact HC1.out); rintro e w14 ⟨v384, rfl, ho0, hb⟩; refine ⟨_, rfl, ?_⟩; have n0_ := xA (Kd.R_below (xR HO382.out) hb); have n1_ := xA (Kd.R_lower ho0 (below_size (xB HB.out))); have n2_ := xA (below_step (xB HB.out) hb); clear HO382; clear HB; have HO382 := n0_; have HO385 := n1_; have HB := n2_; clear n0_ n1_ n2_; (try clear hb); (try clear ho0); obtain ⟨Ao15, co15, eo15⟩ := Kd.R_slice HO382.out; subst eo15; obtain ⟨Ao16, co16, eo16⟩ := Kd.R_slice HO385.out; subst eo16) | ((with_reducible refine gate_callee (f := 31) rfl ?_); refine goesL_ (some 25) rfl rfl Tryd.func31 (by kernel_rfl) rfl #[.slice Ao15 t380.length co15, .slice Ao16 t383.length co16] rfl (by (try simp only [List.map_toArray, List.map_cons, List.map_nil]); first | done | rfl | (simp only [List.length_drop, List.length_take]; rfl)) ?_; (with_reducible refine (spec_CountOutputs.calls k _ _ t380 _ _ t383 t386 t387 _ ?side1 ?side2 ?side3 ?side4 A8.out).mono ?_); (case side1 => exact xC ((Kd.R_reads' HO382.out).2.2)); (case side2 => exact (Kd.R_reads' HO382.out).2.1); (case side3 => exact xC ((Kd.R_reads' HO385.out).2.2)); (case side4 => exact (Kd.R_reads' HO385.out).2.1); rintro e w17 ⟨rfl, hb⟩; refine ⟨_, rfl, ?_⟩; have n0_ := xA (Kd.R_below (xR HO382.out) hb); have n1_ := xA (Kd.R_below (xR HO385.out) hb); have n2_ := xA (below_step (xB HB.out) hb); clear HO382; clear HO385; clear HB; have HO382 := n0_; have HO385 := n1_; have HB := n2_; clear n0_ n1_ n2_; (try clear hb)) | ((with_reducible refine gate_callee (f := 32) rfl ?_); refine goesL_ (some 29) rfl rfl Tryd.func32 (by kernel_rfl) rfl #[.slice A0 l0.length c0] rfl (by (try simp only [List.map_toArray, List.map_cons, List.map_nil]); first | done | rfl | (simp only [List.length_drop, List.length_take]; rfl)) ?_; (with_reducible refine (laws_toFirstS.calls k _ _ l0 t380 _ ?side1 ?side2 A9.out).mono ?_); (case side1 => exact xC (Kd.C_below HR0.out HB.out)); (case side2 => exact HC0.out); rintro e w18 ⟨v389, rfl, ho0, hb⟩; refine ⟨_, rfl, ?_⟩; have n0_ := xA (Kd.R_elder' (xR HO382.out) (Kd.R_base ho0) hb); have n1_ := xA (Kd.R_below (xR HO385.out) hb); have n2_ := xA (Kd.R_lower (Kd.R_new' ho0 (Kd.R_lt (xR HO382.out))) (below_size (xB HB.out))); have n3_ := xA (below_step (xB HB.out) hb); clear HO382; clear HO385; clear HB; have HO382 := n0_; have HO385 := n1_; have HO390 := n2_; have HB := n3_; clear n0_ n1_ n2_ n3_; (try clear hb); (try clear ho0)) | ((with_reducible refine gate_callee (f := 33) rfl ?_); refine goesL_ (some 31) rfl rfl Tryd.func33 (by kernel_rfl) rfl #[.slice A1 l1.length c1] rfl (by (try simp only [List.map_toArray, List.map_cons, List.map_nil]); first | done | rfl | (simp only [List.length_drop, List.length_take]; rfl)) ?_; (with_reducible refine (laws_toIntS.calls k _ _ l1 t383 _ ?side1 ?side2 A10.out).mono ?_); (case side1 => exact xC (Kd.C_below HR1.out HB.out)); (case side2 => exact HC1.out); rintro e w19 ⟨v392, rfl, ho0, hb⟩; refine ⟨_, rfl, ?_⟩; have n0_ := xA (Kd.R_below (xR HO382.out) hb); have n1_ := xA (Kd.R_elder' (xR HO385.out) (Kd.R_base ho0) hb); have n2_ := xA (Kd.R_below (xR HO390.out) hb); have n3_ := xA (Kd.R_lower (Kd.R_new' ho0 (Kd.R_lt (xR HO385.out))) (below_size (xB HB.out))); have n4_ := xA (below_step (xB HB.out) hb); clear HO382; clear HO385; clear HO390; clear HB; have HO382 := n0_; have HO385 := n1_; have HO390 := n2_; have HO393 := n3_; have HB := n4_; clear n0_ n1_ n2_ n3_ n4_; (try clear hb); (try clear ho0); obtain ⟨Ao20, co20, eo20⟩ := Kd.R_slice HO390.out; subst eo20; obtain ⟨Ao21, co21, eo21⟩ := Kd.R_slice HO393.out; subst eo21) | ((with_reducible refine gate_callee (f := 34) rfl ?_); refine goesL_ (some 35) rfl rfl Tryd.func34 (by kernel_rfl) rfl #[.slice Ao20 t380.length co20, .slice Ao21 t383.length co21] rfl (by (try simp only [List.map_toArray, List.map_cons, List.map_nil]); first | done | rfl | (simp only [List.length_drop, List.length_take]; rfl)) ?_; (with_reducible refine (impl_CountOutputs.calls k _ _ t380 _ _ t383 t394 t395 _ ?side1 ?side2 ?side3 ?side4 ?sideg A11.out).mono ?_); (case sideg => exact GLob.below HGL.out (xB HB.out)); (case side1 => exact xC ((Kd.R_reads' HO390.out).2.2)); (case side2 => exact (Kd.R_reads' HO390.out).2.1); (case side3 => exact xC ((Kd.R_reads' HO393.out).2.2)); (case side4 => exact (Kd.R_reads' HO393.out).2.1); rintro e w22 ⟨rfl, hb⟩; refine ⟨_, rfl, ?_⟩; have n0_ := xA (Kd.R_below (xR HO382.out) hb); have n1_ := xA (Kd.R_below (xR HO385.out) hb); have n2_ := xA (Kd.R_below (xR HO390.out) hb); have n3_ := xA (Kd.R_below (xR HO393.out) hb); have n4_ := xA (below_step (xB HB.out) hb); clear HO382; clear HO385; clear HO390; clear HO393; clear HB; have HO382 := n0_; have HO385 := n1_; have HO390 := n2_; have HO393 := n3_; have HB := n4_; clear n0_ n1_ n2_ n3_ n4_; (try clear hb)))
 (try simp only [Act.put, List.setIfInBounds_toArray, List.set_cons_zero, List.set_cons_succ])
 go_cut [45] from 12 to 37 (fun v45 wc => ∃ (kq : Nat) (x45_11 : Bool), v45 = .bool x45_11 ∧ Aside0 (laws_FnExactCountOutputs.j0 kq l0 l1 t380 t383 x45_11 = some r) ∧ Aside0 (kq ≤ k) ∧ Aside0 (Kd.R k79 79 wc w.heap.size (fun _ => True) (.slice Ao20 t380.length co20) t380) ∧ Aside0 (Kd.R (Kd.int .i64) 3 wc w.heap.size (fun _ => True) (.slice Ao21 t383.length co21) t383) ∧ Aside0 (Below w.heap.size w wc))
 case first => as_aux_lemma =>
  have H := HC12.out
  clear HC12
  by_cases c23 : t394 = t386
  rotate_left
  ·rw [if_neg c23] at H
   have c23b0 : (t394 == t386) = false := beq_eq_false_iff_ne.mpr c23
   have c23b1 : (t394 != t386) = true := bne_iff_ne.mpr c23
   (first | rw [c23b0] | (simp only [i64_w, i32_w]; rw [c23b0]) | skip)
   exact absurd H (by have hr_ := HRT.out; cases k <;> simp [laws_FnExactCountOutputs.j0, hr_])
  as_aux_lemma =>
   rw [if_pos c23] at H
   have c23b0 : (t394 == t386) = true := beq_iff_eq.mpr c23
   have c23b1 : (t394 != t386) = false := bne_eq_false_iff_eq.mpr c23
   clear c23
   (first | rw [c23b0] | (simp only [i64_w, i32_w]; rw [c23b0]) | skip)
   have H' := xA H
   clear H
   go_wp2
   (try any_goals exact (xUn (by assumption)).elim)
   go_meet
   case rel => exact ⟨_, ((t395 != t387)), xs, H', ⟨by first | omega | exact Nat.le_refl _⟩, ⟨by (with_reducible repeat (first | apply Kd.R_alloc | apply Kd.R_drewN | apply Kd.R_drew)); exact Kd.R_mono HO390.out (fun _ hk => trivial)⟩, ⟨by (with_reducible repeat (first | apply Kd.R_alloc | apply Kd.R_drewN | apply Kd.R_drew)); exact Kd.R_mono HO393.out (fun _ hk => trivial)⟩, ⟨xB HB.out⟩⟩
 case rest => as_aux_lemma =>
  clear HC12
  try clear c1
  try clear c3b0
  try clear c3b1
  try clear c5b0
  obtain ⟨kq, x45_11, rfl, HA, HJ11, HO_8, HO_9, HB⟩ := hcut
  cases kq with
  | zero => exact absurd HA.out (by simp [laws_FnExactCountOutputs.j0])
  | succ kj11 =>
   have H := HA.out
   clear HA
   simp only [laws_FnExactCountOutputs.j0] at H
   by_cases c24 : x45_11 = true
   ·as_aux_lemma =>
     subst c24
     have H1 := H
     rw [if_pos rfl] at H1
     clear H
     have H := H1
     clear H1
     exact absurd ((Option.some.inj H).trans HRT.out) (by decide)
   replace c24 := Bool.eq_false_iff.mpr c24
   subst c24
   have H1 := H
   rw [if_neg (show ¬ (false = true) by decide)] at H1
   clear H
   have H := H1
   clear H1
   replace H := Option.bind_eq_some_iff.mp H
   obtain ⟨t396, A250, H⟩ := H
   (try dsimp only at H)
   have A25 := xA A250
   clear A250
   replace H := Option.bind_eq_some_iff.mp H
   obtain ⟨t399, A260, H⟩ := H
   (try dsimp only at H)
   have A26 := xA A260
   clear A260
   by_cases c27 : t399 = true
   rotate_left
   ·as_aux_lemma =>
     replace c27 := Bool.eq_false_iff.mpr c27
     subst c27
     have H1 := H
     rw [if_neg (show ¬ (false = true) by decide)] at H1
     clear H
     have H := H1
     clear H1
     exact absurd ((Option.some.inj H).trans HRT.out) (by decide)

   as_aux_lemma =>
    subst c27
    have H1 := H
    rw [if_pos rfl] at H1
    clear H
    have H := H1
    clear H1
    replace H := Option.bind_eq_some_iff.mp H
    obtain ⟨t400, A280, H⟩ := H
    (try dsimp only at H)
    have A28 := xA A280
    clear A280
    replace H := Option.bind_eq_some_iff.mp H
    obtain ⟨t403, A290, H⟩ := H
    (try dsimp only at H)
    have A29 := xA A290
    clear A290
    by_cases c30 : t403 = true
    rotate_left
    ·replace c30 := Bool.eq_false_iff.mpr c30
     subst c30
     have H1 := H
     rw [if_neg (show ¬ (false = true) by decide)] at H1
     clear H
     have H := H1
     clear H1
     exact absurd ((Option.some.inj H).trans HRT.out) (by decide)
    subst c30
    have H1 := H
    rw [if_pos rfl] at H1
    clear H
    have H := H1
    clear H1
    obtain rfl := Option.some.inj H
    go_wp2_with (first | ((with_reducible refine gate_callee (f := 32) rfl ?_); refine goesL_ (some 48) rfl rfl Tryd.func32 (by kernel_rfl) rfl #[.slice A0 l0.length c0] rfl (by (try simp only [List.map_toArray, List.map_cons, List.map_nil]); first | done | rfl | (simp only [List.length_drop, List.length_take]; rfl)) ?_; (with_reducible refine (laws_toFirstS.calls kj11 _ _ l0 t396 _ ?side1 ?side2 A25.out).mono ?_); (case side1 => exact xC (Kd.C_below HR0.out HB.out)); (case side2 => exact HC0.out); rintro e w31 ⟨v397, rfl, ho0, hb⟩; refine ⟨_, rfl, ?_⟩; have n0_ := xA (Kd.R_elder' (xR HO_8.out) (Kd.R_base ho0) hb); have n1_ := xA (Kd.R_below (xR HO_9.out) hb); have n2_ := xA (Kd.R_lower (Kd.R_new' ho0 (Kd.R_lt (xR HO_8.out))) (below_size (xB HB.out))); have n3_ := xA (below_step (xB HB.out) hb); clear HO_8; clear HO_9; clear HB; have HO_8 := n0_; have HO_9 := n1_; have HO398 := n2_; have HB := n3_; clear n0_ n1_ n2_ n3_; (try clear hb); (try clear ho0); obtain ⟨Ao32, co32, eo32⟩ := Kd.R_slice HO398.out; subst eo32) | ((with_reducible refine gate_callee (f := 35) rfl ?_); refine goesL_ (some 49) rfl rfl Tryd.func35 (by kernel_rfl) rfl #[.slice Ao20 t380.length co20, .slice Ao32 t396.length co32] rfl (by (try simp only [List.map_toArray, List.map_cons, List.map_nil]); first | done | rfl | (simp only [List.length_drop, List.length_take]; rfl)) ?_; (with_reducible refine (laws_eqFirstS.calls kj11 _ _ t380 _ _ t396 true _ ?side1 ?side2 ?side3 ?side4 A26.out).mono ?_); (case side1 => exact xC ((Kd.R_reads' HO_8.out).2.2)); (case side2 => exact (Kd.R_reads' HO_8.out).2.1); (case side3 => exact xC ((Kd.R_reads' HO398.out).2.2)); (case side4 => exact (Kd.R_reads' HO398.out).2.1); rintro e w33 ⟨rfl, hb⟩; refine ⟨_, rfl, ?_⟩; have n0_ := xA (Kd.R_below (xR HO_8.out) hb); have n1_ := xA (Kd.R_below (xR HO_9.out) hb); have n2_ := xA (Kd.R_below (xR HO398.out) hb); have n3_ := xA (below_step (xB HB.out) hb); clear HO_8; clear HO_9; clear HO398; clear HB; have HO_8 := n0_; have HO_9 := n1_; have HO398 := n2_; have HB := n3_; clear n0_ n1_ n2_ n3_; (try clear hb)) | ((with_reducible refine gate_callee (f := 33) rfl ?_); refine goesL_ (some 53) rfl rfl Tryd.func33 (by kernel_rfl) rfl #[.slice A1 l1.length c1] rfl (by (try simp only [List.map_toArray, List.map_cons, List.map_nil]); first | done | rfl | (simp only [List.length_drop, List.length_take]; rfl)) ?_; (with_reducible refine (laws_toIntS.calls kj11 _ _ l1 t400 _ ?side1 ?side2 A28.out).mono ?_); (case side1 => exact xC (Kd.C_below HR1.out HB.out)); (case side2 => exact HC1.out); rintro e w34 ⟨v401, rfl, ho0, hb⟩; refine ⟨_, rfl, ?_⟩; have n0_ := xA (Kd.R_below (xR HO_8.out) hb); have n1_ := xA (Kd.R_elder' (xR HO_9.out) (Kd.R_base ho0) hb); have n2_ := xA (Kd.R_below (xR HO398.out) hb); have n3_ := xA (Kd.R_lower (Kd.R_new' ho0 (Kd.R_lt (xR HO_9.out))) (below_size (xB HB.out))); have n4_ := xA (below_step (xB HB.out) hb); clear HO_8; clear HO_9; clear HO398; clear HB; have HO_8 := n0_; have HO_9 := n1_; have HO398 := n2_; have HO402 := n3_; have HB := n4_; clear n0_ n1_ n2_ n3_ n4_; (try clear hb); (try clear ho0); obtain ⟨Ao35, co35, eo35⟩ := Kd.R_slice HO402.out; subst eo35) | ((with_reducible refine gate_callee (f := 36) rfl ?_); refine goesL_ (some 54) rfl rfl Tryd.func36 (by kernel_rfl) rfl #[.slice Ao21 t383.length co21, .slice Ao35 t400.length co35] rfl (by (try simp only [List.map_toArray, List.map_cons, List.map_nil]); first | done | rfl | (simp only [List.length_drop, List.length_take]; rfl)) ?_; (with_reducible refine (laws_eqIntS.calls kj11 _ _ t383 _ _ t400 true _ ?side1 ?side2 ?side3 ?side4 A29.out).mono ?_); (case side1 => exact xC ((Kd.R_reads' HO_9.out).2.2)); (case side2 => exact (Kd.R_reads' HO_9.out).2.1); (case side3 => exact xC ((Kd.R_reads' HO402.out).2.2)); (case side4 => exact (Kd.R_reads' HO402.out).2.1); rintro e w' ⟨rfl, ⟨nd, rfl⟩⟩; refine ⟨_, rfl, ?_⟩))
    (try any_goals exact (xUn (by assumption)).elim)
    go_ret
    exact ⟨xr, xB HB.out⟩
/-- THE ONE PURE STATEMENT of laws_FnExactCountOutputs: yours. -/
def laws_FnExactCountOutputs.Pure : Prop := ∀ (l0 : List (S83)) (l1 : List Int), l0.length * 40 ≤ 140737488351232 → l1.length ≤ maxLen → l1.length * 8 ≤ 140737488351232 → (∀ x ∈ l1, (Lit.int .i64 x).wf = true) → ∃ k, laws_FnExactCountOutputs.f k l0 l1 = some true
theorem laws_FnExactCountOutputs.walk (P : laws_FnExactCountOutputs.Pure) (a0 : Option Addr) (cap0 : Nat) (l0 : List (S83)) (a1 : Option Addr) (len1 cap1 : Nat) (z1 : List Int) (w : World) (hgl_ : GLob w) (w0 : Kd.C k83 w a0 l0.length l0) (c0 : l0.length ≤ cap0) (y0 : l0.length * 40 ≤ 140737488351232) (w1 : (a1 = none ∧ len1 = 0 ∧ cap1 = 0 ∧ z1 = []) ∨ ∃ x, a1 = some x ∧ len1 ≤ cap1 ∧ cap1 ≤ maxLen ∧ z1.length = cap1 ∧ (∀ i, i < z1.length → w.cell? (x.add i) = some (.int .i64 (z1.getD i 0))) ∧ ∀ n ∈ z1, (Lit.int .i64 n).wf = true) (y1 : len1 * 8 ≤ 140737488351232) :
  Calls Tryd.prog 4 #[.slice a0 l0.length cap0, .slice a1 len1 cap1] w fun e w' => e = .returned (.bool true) ∧ Below w.heap.size w w' := by
 obtain ⟨l1, rfl, hr1, hm1, hw1, hc1⟩ := ReadsInt.ofRowC w1
 obtain ⟨k, h⟩ := P l0 l1 y0 hm1 y1 hw1
 refine (laws_FnExactCountOutputs.calls k _ _ l0 _ _ l1 true w w0 c0 (Kd.C_of_reads (d := (0 : Int)) (h1 := fun _ => rfl) hr1) hc1 hgl_ h rfl).mono ?_
 rintro e w' ⟨rfl, hd⟩
 exact ⟨rfl, hd⟩

end Go.Proofs.YtjplcongellcmaaDoor.PFnExactCountOutputs
