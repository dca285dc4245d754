/- What each Go function that the statement FnFirstCycles reaches answers, proved call by call. No condition beyond those that the theorems print. (Written by wip/tools/xprint.py of this repo, over the kit's print.) -/
import Derived.Test.YtjplcongellcmaaPFnFirstCyclesx0
import Derived.Test.YtjplcongellcmaaPFnFirstCyclesx1
import Derived.Test.YtjplcongellcmaaPFnFirstCyclesx2
import Derived.Test.YtjplcongellcmaaPFnFirstCyclesx4
import Derived.Test.YtjplcongellcmaaPFnFirstCyclesx5
import Derived.Test.YtjplcongellcmaaPFnFirstCyclesx6
import Derived.Test.YtjplcongellcmaaPFnFirstCyclesx7
namespace Go.Proofs.Ytjplcongellcmaa.PFnFirstCycles
open Go.RowKit Go.Proofs.YtjplcongellcmaaW.PrintWords Go.Proofs.YtjplcongellcmaaW.PrintLast Go.Proofs.YtjplcongellcmaaW.PrintMore
attribute [local go_sem] max2_int min2_int max_two min_two max_three min_three max_four min_four   -- for this text's walks alone
set_option linter.unusedVariables false
set_option linter.unusedSimpArgs false

/-! ### spec_CyclesOfFirst: function 107 -/
def spec_CyclesOfFirst.f (k : Nat) (a0_0 : Int) (a0_1 : Int) (a0_2 : Int) (a0_3 : Int) (a0_4 : Bool) (a1 : Int) : Option ((List (List Int)) × Bool) := (spec_foScan.f a0_0 a0_1 a0_2 a0_3 a0_4 a1).bind fun t378 => (if t378 = true then ((spec_foCycles.f k a0_0 a0_1 a0_2 a0_3 a0_4 a1).bind fun t379 => (some (t379, true))) else (some (([] : List (List Int)), false)))
theorem xHid {p : Prop} (h : p) : RowKit.Hid p := h
theorem spec_CyclesOfFirst.mono : ∀ a0 a1 a2 a3 a4 a5 k, LeO (spec_CyclesOfFirst.f k a0 a1 a2 a3 a4 a5) (spec_CyclesOfFirst.f (k + 1) a0 a1 a2 a3 a4 a5) := by
 intro a0 a1 a2 a3 a4 a5 k
 have m0 := @spec_foCycles.mono
 unfold spec_CyclesOfFirst.f
 exact xM
set_option maxHeartbeats 200000000 in
set_option maxRecDepth 100000 in
theorem spec_CyclesOfFirst.calls (k : Nat) (a0_0 : Int) (a0_1 : Int) (a0_2 : Int) (a0_3 : Int) (a0_4 : Bool) (a1 : Int) (r1 : List (List Int)) (r2 : Bool) (w : World) (h : spec_CyclesOfFirst.f k a0_0 a0_1 a0_2 a0_3 a0_4 a1 = some (r1, r2)) :
  Calls Try.prog 107 #[.agg #[.int .i64 a0_0, .int .i64 a0_1, .int .i64 a0_2, .int .i64 a0_3, .bool a0_4], .int .i64 a1] w fun e w' => ∃ v0_ : Value, e = .returned (.tuple #[v0_, .bool r2]) ∧ Kd.N (Kd.slice 3 (Kd.int .i64)) 24 w' w.heap.size (fun k_ => (w.heap.size ≤ k_)) v0_ r1 ∧ Below w.heap.size w w' := by
 have hu62 := Try.underlying62
 have HB := xA (Below.refl w.heap.size w)
 have H : ((spec_foScan.f a0_0 a0_1 a0_2 a0_3 a0_4 a1).bind fun t378 => (if t378 = true then ((spec_foCycles.f k a0_0 a0_1 a0_2 a0_3 a0_4 a1).bind fun t379 => (some (t379, true))) else (some (([] : List (List Int)), false)))) = some (r1, r2) := h
 clear h
 obtain ⟨t378, A3, H⟩ := xO H
 (try dsimp only at H)
 by_cases c4 : t378 = true
 rotate_left
 ·replace c4 := Bool.eq_false_iff.mpr c4
  subst c4
  rw [if_neg (show ¬ (false = true) by decide)] at H
  simp only [Option.some.injEq, Prod.mk.injEq] at H
  obtain ⟨rfl, rfl⟩ := H
  go_enter Try.func107, Try.ntmps107
  go_wp2_with (first | (refine xg 2 rfl ?_; refine xV 2 #[.int .i64 a0_0, .int .i64 a0_1, .int .i64 a0_2, .int .i64 a0_3, .bool a0_4] 62 ?_; intro gb377 hg w11 hbox hb; have BK377 := xA (hbox); have GW377 := xgw hg (below_size (xB HB.out)); have GE377 := GW377; replace HB := xA (below_step (xB HB.out) hb); clear hb hbox hg; obtain ⟨hcz12_0, hcz12_1, hcz12_2, hcz12_3, hcz12_4, hfz12_0, hfz12_1, hfz12_2, hfz12_3, hfz12_4⟩ := xZ5 BK377.out) | (refine xG (some 8) Try.func306 #[.agg #[.int .i64 a0_0, .int .i64 a0_1, .int .i64 a0_2, .int .i64 a0_3, .bool a0_4], .int .i64 a1] ?_; (with_reducible refine (spec_foScan.calls a0_0 a0_1 a0_2 a0_3 a0_4 a1 false _ A3.out).mono ?_); rintro e w13 ⟨rfl, hb⟩; refine ⟨_, rfl, ?_⟩; replace BK377 := xkb BK377 hb; replace HB := xA (below_step (xB1 GE377.out HB.out) hb); (try clear hb)))
  go_ret2
  exact ⟨_, xr, by first | exact Kd.S_nil _ _ _ _ _ | exact Kd.N_nil _ _ _ _ _ | exact Kd.V_nil _ _ _ _ _ | exact Kd.Q_nil _ _ _ _ _ | exact Kd.R_nil _ _ _ _ _, xB1 GE377.out HB.out⟩

 subst c4
 rw [if_pos rfl] at H
 obtain ⟨t379, A5, H⟩ := xO H
 (try dsimp only at H)
 simp only [Option.some.injEq, Prod.mk.injEq] at H
 obtain ⟨rfl, rfl⟩ := H
 go_enter Try.func107, Try.ntmps107
 go_wp2_with (first | (refine xq rfl ?_; first | (refine xG (some 8) Try.func306 #[.agg #[.int .i64 a0_0, .int .i64 a0_1, .int .i64 a0_2, .int .i64 a0_3, .bool a0_4], .int .i64 a1] ?_; (with_reducible refine (spec_foScan.calls a0_0 a0_1 a0_2 a0_3 a0_4 a1 true _ A3.out).mono ?_); rintro e w8 ⟨rfl, hb⟩; refine ⟨_, rfl, ?_⟩; replace BK377 := xkb BK377 hb; replace HB := xA (below_step (xB1 GE377.out HB.out) hb); (try clear hb); obtain ⟨hcz9_0, hcz9_1, hcz9_2, hcz9_3, hcz9_4, hfz9_0, hfz9_1, hfz9_2, hfz9_3, hfz9_4⟩ := xZ5 BK377.out) | (refine xG (some 12) Try.func307 #[.agg #[.int .i64 a0_0, .int .i64 a0_1, .int .i64 a0_2, .int .i64 a0_3, .bool a0_4], .int .i64 a1] ?_; (with_reducible refine (spec_foCycles.calls k a0_0 a0_1 a0_2 a0_3 a0_4 a1 t379 _ A5.out).mono ?_); rintro e w10 ⟨v380, rfl, ho0, hb⟩; refine ⟨_, rfl, ?_⟩; have HO381 := xA (Kd.N_lower (Kd.N_mono (ok' := fun k_ => (w.heap.size ≤ k_) ∧ k_ ≠ gb377) ho0 (fun k_ hk_ => ⟨(Nat.le_trans (below_size (xB1 GE377.out HB.out)) hk_), (Kd.freshB (xK BK377.out) k_ hk_)⟩)) (below_size (xB1 GE377.out HB.out))); replace BK377 := xkb BK377 hb; replace HB := xA (below_step (xB1 GE377.out HB.out) hb); (try clear hb); (try clear ho0))) | (refine xg 2 rfl ?_; refine xV 2 #[.int .i64 a0_0, .int .i64 a0_1, .int .i64 a0_2, .int .i64 a0_3, .bool a0_4] 62 ?_; intro gb377 hg w6 hbox hb; have BK377 := xA (hbox); have GW377 := xgw hg (below_size (xB HB.out)); have GE377 := GW377; replace HB := xA (below_step (xB HB.out) hb); clear hb hbox hg; obtain ⟨hcz7_0, hcz7_1, hcz7_2, hcz7_3, hcz7_4, hfz7_0, hfz7_1, hfz7_2, hfz7_3, hfz7_4⟩ := xZ5 BK377.out))
 go_ret2
 exact ⟨_, xr, by (with_reducible repeat (first | apply Kd.N_alloc | apply Kd.N_drewN | apply Kd.N_drew)); exact Kd.N_mono HO381.out (fun _ hk => hk.1), xB1 GE377.out HB.out⟩
-- NOT PRINTED: function 309 (impl_RestsOf_c1)

theorem impl_RestsOf_xRstep {α : Type} {d : Kd α} {e base : Nat} {w w1 : World} {ok : Nat → Prop} {v : Value} {xs : List α} (h : d.R e w base ok v xs) (hm : ∀ k, ok k → k < w.heap.size → w1.heap[k]? = w.heap[k]?) : d.R e w1 base ok v xs :=
 Kd.R_mono (Kd.R_move (Kd.R_bound h) (fun k hk => hm k hk.1 hk.2.2.1)) (fun _ hk => hk.1)
theorem impl_RestsOf_xZ5c {w : World} {g : Nat} {t : TypeId} {v0 v1 v2 v3 v4 : Value} (h : w.heap[g]? = some (.cells #[v0, v1, v2, v3, v4] t (0, 0))) : w.cell? ⟨g, 0, none⟩ = some v0 ∧ w.cell? ⟨g, 1, none⟩ = some v1 ∧ w.cell? ⟨g, 2, none⟩ = some v2 ∧ w.cell? ⟨g, 3, none⟩ = some v3 ∧ w.cell? ⟨g, 4, none⟩ = some v4 ∧ True := ⟨(blk_cell h 0).trans rfl, (blk_cell h 1).trans rfl, (blk_cell h 2).trans rfl, (blk_cell h 3).trans rfl, (blk_cell h 4).trans rfl, trivial⟩
theorem impl_RestsOf_xSl {α : Type} {d : Kd α} {e base : Nat} {w : World} {ok : Nat → Prop} {v : Value} {xs : List α} (h : d.R e w base ok v xs) : ∃ m A c, v = .slice A m c := by
 obtain ⟨A, c, h⟩ := Kd.R_slice h
 exact ⟨_, A, c, h⟩
theorem impl_RestsOf_xBne {w : World} {g g' : Nat} {t t' : TypeId} {cs cs' : Array Value} (h : w.heap[g]? = some (.cells cs t (0, 0))) (h' : w.heap[g']? = some (.cells cs' t' (0, 0))) (hne : t ≠ t') : g ≠ g' := by
 rintro rfl
 rw [h] at h'
 injection h' with h'
 injection h' with _ h'
 exact hne h'
theorem impl_RestsOf_xRset {α : Type} {d : Kd α} {e base : Nat} {w : World} {ok : Nat → Prop} {v : Value} {xs : List α} (h : d.R e w base ok v xs) {g t : Nat} {cells : Array Value} (hb : w.heap[g]? = some (.cells cells t (0, 0))) (ht : ∀ q, q ∈ e :: d.E → q ≠ t) (u : Value) : d.R e (w.setCell ⟨g, 0, none⟩ u) base ok v xs :=
 Kd.R_mono (Kd.R_move (Kd.R_bound h) (fun k hk => Below.heap_setCell w _ u k (by
  rintro rfl
  obtain ⟨_, _, _, q, hq, cells', hc⟩ := hk
  rw [hc] at hb
  injection hb with hb
  injection hb with _ hb
  exact ht q hq hb))) (fun _ hk => hk.1)
theorem impl_RestsOf_xZ1c {w : World} {g : Nat} {t : TypeId} {v0 : Value} (h : w.heap[g]? = some (.cells #[v0] t (0, 0))) : w.cell? ⟨g, 0, none⟩ = some v0 ∧ w.frozen? ⟨g, 0, none⟩ = false := ⟨(blk_cell h 0).trans rfl, blk_frozen h 0⟩
theorem impl_RestsOf.xSv {P : Program} {ops : Array Oper} {Q : Exit → Act → World → Prop} {rest : List Oper} {o : Oper} {a : Act} {W : World} {g : Nat} {t ty : TypeId} {c0 : Value} {A : Option Addr} {m c : Nat} (x y : Tmp) (hb : W.heap[g]? = some (.cells #[c0] t (0, 0)))
    (h : ∀ w', w' = W.setCell ⟨g, 0, none⟩ (.slice A m c) → wpList P ops Q rest a w')
    (ho : o.op = .store ty (.tmp x) (.tmp y) := by rfl) (hgd : o.guard = none := by rfl) (hN : o.dst = none := by rfl) (hx : a.eval (.tmp x) = .pointer (some ⟨g, 0, none⟩) := by first | rfl | (go_simp; done) | (go_simp; rfl)) (hy : a.eval (.tmp y) = .slice A m c := by first | rfl | (go_simp; done) | (go_simp; rfl))
    (hi : (P.info? ty).map (·.size) = some 1 := by kernel_rfl) : wpList P ops Q (o :: rest) a W := by
  have hr := run_storeCells_cells (P := P) g 0 [.slice A m c] 0 W (fun j hj => by rw [show 0 + 0 + j = j by omega, blk_cell hb j]; simp at hj ⊢; exact hj) (fun j _ => blk_frozen hb _) (fun v hv => by simp at hv; subst hv; rfl)
  have hr' : (storeCells ⟨g, 0, none⟩ [.slice A m c]).run P W = .ok () (W.setCell ⟨g, 0, none⟩ (.slice A m c)) := hr.trans rfl
  have hrun : (execOp a.eval o).run P W = .ok .skip (W.setCell ⟨g, 0, none⟩ (.slice A m c)) := by
    cases hq : P.info? ty with
    | none => simp [hq] at hi
    | some i =>
      have hs : i.size = 1 := by simpa [hq] using hi
      unfold execOp
      simp only [ho, hx, hy, Instr.storeAt, Instr.sureAddr, Sem.run_bind, Sem.run_pure, Result.andThen_ok]
      simp [storeVar, sizeOf, typeInfo, hq, Value.cells, hs, hr']
  exact store_event hgd ho hN hrun h
/-- the boxes of f and of the numbers, the box of the list, and the list -/
def impl_RestsOf_I (w0 : World) (base q0 q1 q2 : Nat) (b0 b1 b2 b3 : Int) (b4 : Bool) (x : Int) (v : Value) (xs : List Int) (w : World) : Prop :=
 w.heap[q0]? = some (.cells #[.int .i64 b0, .int .i64 b1, .int .i64 b2, .int .i64 b3, .bool b4] 62 (0, 0)) ∧ q0 < base ∧ w.heap[q1]? = some (.cells #[.int .i64 x] 3 (0, 0)) ∧ q1 < base ∧ w.heap[q2]? = some (.cells #[v] 24 (0, 0)) ∧ Kd.R (Kd.int .i64) 3 w base (fun _ => True) v xs ∧ Below w0.heap.size w0 w ∧ w0.heap.size ≤ base ∧ base ≤ w.heap.size ∧ w0.heap.size ≤ q2
theorem impl_RestsOf_I.below {w0 : World} {base q0 q1 q2 : Nat} {b0 b1 b2 b3 : Int} {b4 : Bool} {x : Int} {v : Value} {xs : List Int} {w w' : World} (h : impl_RestsOf_I w0 base q0 q1 q2 b0 b1 b2 b3 b4 x v xs w) (hb : Below w.heap.size w w') : impl_RestsOf_I w0 base q0 q1 q2 b0 b1 b2 b3 b4 x v xs w' := by
 obtain ⟨hq0, hg0, hi0, hj0, ho_, hr, hB, h1, h2, h3⟩ := h
 exact ⟨blk_below hq0 hb, hg0, blk_below hi0 hb, hj0, blk_below ho_ hb, Kd.R_below hr hb, below_step hB hb, h1, Nat.le_trans h2 hb.size, h3⟩
theorem impl_RestsOf_I.row {w0 : World} {base q0 q1 q2 : Nat} {b0 b1 b2 b3 : Int} {b4 : Bool} {x : Int} {v : Value} {xs : List Int} {w : World} (h : impl_RestsOf_I w0 base q0 q1 q2 b0 b1 b2 b3 b4 x v xs w) : Kd.R (Kd.int .i64) 3 w base (fun _ => True) v xs := by
 obtain ⟨hq0, hg0, hi0, hj0, ho_, hr, hB, h1, h2, h3⟩ := h
 exact hr
theorem impl_RestsOf_I.base_le {w0 : World} {base q0 q1 q2 : Nat} {b0 b1 b2 b3 : Int} {b4 : Bool} {x : Int} {v : Value} {xs : List Int} {w : World} (h : impl_RestsOf_I w0 base q0 q1 q2 b0 b1 b2 b3 b4 x v xs w) : base ≤ w.heap.size := by
 obtain ⟨hq0, hg0, hi0, hj0, ho_, hr, hB, h1, h2, h3⟩ := h
 exact h2
theorem impl_RestsOf_I.bel {w0 : World} {base q0 q1 q2 : Nat} {b0 b1 b2 b3 : Int} {b4 : Bool} {x : Int} {v : Value} {xs : List Int} {w : World} (h : impl_RestsOf_I w0 base q0 q1 q2 b0 b1 b2 b3 b4 x v xs w) : w0.heap.size ≤ base ∧ Below w0.heap.size w0 w := by
 obtain ⟨hq0, hg0, hi0, hj0, ho_, hr, hB, h1, h2, h3⟩ := h
 exact ⟨h1, hB⟩
theorem impl_RestsOf_I.fin {w0 : World} {base q0 q1 q2 : Nat} {b0 b1 b2 b3 : Int} {b4 : Bool} {x : Int} {v : Value} {xs : List Int} {w w' : World} (h : impl_RestsOf_I w0 base q0 q1 q2 b0 b1 b2 b3 b4 x v xs w) (hb : Below w.heap.size w w') : Kd.R (Kd.int .i64) 3 w' w0.heap.size (fun _ => True) v xs ∧ Below w0.heap.size w0 w' :=
 ⟨Kd.R_lower (h.below hb).row (h.below hb).bel.1, (h.below hb).bel.2⟩
/-- a new row, not yet put into its box -/
structure impl_RestsOf_J (w0 : World) (base q0 q1 q2 : Nat) (b0 b1 b2 b3 : Int) (b4 : Bool) (x : Int) (u v : Value) (xs : List Int) (w : World) : Prop where
 old : w.heap[q0]? = some (.cells #[.int .i64 b0, .int .i64 b1, .int .i64 b2, .int .i64 b3, .bool b4] 62 (0, 0)) ∧ q0 < base ∧ w.heap[q1]? = some (.cells #[.int .i64 x] 3 (0, 0)) ∧ q1 < base
 box : w.heap[q2]? = some (.cells #[u] 24 (0, 0))
 row : Kd.R (Kd.int .i64) 3 w base (fun _ => True) v xs
 bel : Below w0.heap.size w0 w ∧ w0.heap.size ≤ base ∧ base ≤ w.heap.size ∧ w0.heap.size ≤ q2
theorem impl_RestsOf_I.put {w0 : World} {base q0 q1 q2 : Nat} {b0 b1 b2 b3 : Int} {b4 : Bool} {x : Int} {v : Value} {xs : List Int} {w w1 : World} {v1 : Value} {ys : List Int} (h : impl_RestsOf_I w0 base q0 q1 q2 b0 b1 b2 b3 b4 x v xs w) (ho : Kd.R (Kd.int .i64) 3 w1 base (fun _ => True) v1 ys) (hb : Below base w w1) (hg : w.grownBy w1 v.ownBlock) : impl_RestsOf_J w0 base q0 q1 q2 b0 b1 b2 b3 b4 x v v1 ys w1 := by
 obtain ⟨hq0, hg0, hi0, hj0, ho_, hr, hB, h1, h2, h3⟩ := h
 exact ⟨⟨blk_grown hq0 hg (fun e_ => Nat.not_le_of_lt hg0 (Kd.R_base hr q0 e_.symm)), hg0, blk_grown hi0 hg (fun e_ => Nat.not_le_of_lt hj0 (Kd.R_base hr q1 e_.symm)), hj0⟩, blk_grown ho_ hg (Kd.R_ne hr ho_ (by decide)), ho, ⟨hB.trans (hb.mono h1), h1, Nat.le_trans h2 hb.size, h3⟩⟩
theorem impl_RestsOf_J.stored {w0 : World} {base q0 q1 q2 : Nat} {b0 b1 b2 b3 : Int} {b4 : Bool} {x : Int} {u : Value} {A : Option Addr} {m c : Nat} {xs : List Int} {w w' : World} (h : impl_RestsOf_J w0 base q0 q1 q2 b0 b1 b2 b3 b4 x u (.slice A m c) xs w) (hw : w' = w.setCell ⟨q2, 0, none⟩ (.slice A m c)) : impl_RestsOf_I w0 base q0 q1 q2 b0 b1 b2 b3 b4 x (.slice A m c) xs w' := by
 subst hw
 obtain ⟨⟨hq0, hg0, hi0, hj0⟩, ho_, hr, hB, h1, h2, h3⟩ := h
 exact ⟨blk_far hq0 (p := ⟨q2, 0, none⟩) (impl_RestsOf_xBne hq0 ho_ (by decide)) _, hg0, blk_far hi0 (p := ⟨q2, 0, none⟩) (impl_RestsOf_xBne hi0 ho_ (by decide)) _, hj0, blk_put ho_ 0 _ rfl, impl_RestsOf_xRset hr ho_ (by simp [Kd.int, Kd.scalar]) _, hB.setCell h3 _, h1, by simpa [World.setCell] using h2, h3⟩
set_option maxHeartbeats 200000000 in
set_option maxRecDepth 100000 in
theorem impl_RestsOf_c1.calls (k : Nat) (b0 b1 b2 b3 : Int) (b4 : Bool) (y x t : Int) (xs : List Int) (v : Value) (w0 w : World) (base q0 q1 q2 : Nat) (hI : impl_RestsOf_I w0 base q0 q1 q2 b0 b1 b2 b3 b4 x v xs w) (hl : xs.length < 17592186044416) (h : impl_First_step.f k b0 b1 b2 b3 b4 y x = some t) :
  Calls Try.prog 309 #[.int .i64 y, .pointer (some ⟨q0, 0, none⟩), .pointer (some ⟨q1, 0, none⟩), .pointer (some ⟨q2, 0, none⟩)] w fun e w' => e = .returned (.tuple #[]) ∧ ∃ v', impl_RestsOf_I w0 base q0 q1 q2 b0 b1 b2 b3 b4 x v' (if t = y then xs ++ [y] else xs) w' := by
 have hu62 := Try.underlying62
 have HI := xA hI
 have HH := xA h
 have HL := xA hl
 clear hI h hl
 by_cases c : t = y
 rotate_left
 ·have cb := beq_eq_false_iff_ne.mpr c
  rw [if_neg c]
  clear c
  obtain ⟨hq0, hg0, hi0, hj0, ho, hr, hB, h1, h2, h3⟩ := HI.out; obtain ⟨hcz_0, hcz_1, hcz_2, hcz_3, hcz_4, -⟩ := impl_RestsOf_xZ5c hq0; obtain ⟨hci0, -⟩ := impl_RestsOf_xZ1c hi0; obtain ⟨hco, hfo⟩ := impl_RestsOf_xZ1c ho; clear hq0 hg0 hi0 hj0 ho hr hB h1 h2 h3
  go_enter Try.func309, Try.ntmps309
  go_wp2_with (first | (go_at_call 293; (with_reducible refine (impl_First_step.calls k b0 b1 b2 b3 b4 y x t _ HH.out).mono ?_); rintro e w9 ⟨rfl, hb⟩; replace HI := xA (HI.out.below (below_step (by repeat (first | (with_reducible first | apply below_alloc | apply pw_below_drewN | apply below_drew1) | exact Below.refl _ _)) hb)); clear hb hcz_0 hcz_1 hcz_2 hcz_3 hcz_4 hci0 hco hfo; obtain ⟨hq0, hg0, hi0, hj0, ho, hr, hB, h1, h2, h3⟩ := HI.out; obtain ⟨hcz_0, hcz_1, hcz_2, hcz_3, hcz_4, -⟩ := impl_RestsOf_xZ5c hq0; obtain ⟨hci0, -⟩ := impl_RestsOf_xZ1c hi0; obtain ⟨hco, hfo⟩ := impl_RestsOf_xZ1c ho; clear hq0 hg0 hi0 hj0 ho hr hB h1 h2 h3))
  (first | go_end0 | ((try simp only [Exit.inBlock, Exit.then]); refine bodyPost_ret (results_none rfl _ _ _) rfl ?_))
  exact ⟨by first | rfl | (simp; done), v, HI.out.below (by repeat (first | (with_reducible first | apply below_alloc | apply pw_below_drewN | apply below_drew1) | exact Below.refl _ _))⟩
 have cb := beq_iff_eq.mpr c
 rw [if_pos c]
 clear c
 obtain ⟨hq0, hg0, hi0, hj0, ho, hr, hB, h1, h2, h3⟩ := HI.out; obtain ⟨hcz_0, hcz_1, hcz_2, hcz_3, hcz_4, -⟩ := impl_RestsOf_xZ5c hq0; obtain ⟨hci0, -⟩ := impl_RestsOf_xZ1c hi0; obtain ⟨hco, hfo⟩ := impl_RestsOf_xZ1c ho; clear hq0 hg0 hi0 hj0 ho hr hB h1 h2 h3
 go_enter Try.func309, Try.ntmps309
 go_wp2_with (first | (go_at_call 293; (with_reducible refine (impl_First_step.calls k b0 b1 b2 b3 b4 y x t _ HH.out).mono ?_); rintro e w9 ⟨rfl, hb⟩; replace HI := xA (HI.out.below (below_step (by repeat (first | (with_reducible first | apply below_alloc | apply pw_below_drewN | apply below_drew1) | exact Below.refl _ _)) hb)); clear hb hcz_0 hcz_1 hcz_2 hcz_3 hcz_4 hci0 hco hfo; obtain ⟨hq0, hg0, hi0, hj0, ho, hr, hB, h1, h2, h3⟩ := HI.out; obtain ⟨hcz_0, hcz_1, hcz_2, hcz_3, hcz_4, -⟩ := impl_RestsOf_xZ5c hq0; obtain ⟨hci0, -⟩ := impl_RestsOf_xZ1c hi0; obtain ⟨hco, hfo⟩ := impl_RestsOf_xZ1c ho; clear hq0 hg0 hi0 hj0 ho hr hB h1 h2 h3) | ((with_reducible refine gate_builtin (b := .append) (xs := #[.tmp 11, .tmp 13]) rfl ?_); at_builtin; refine Kd.R_append (Kd.int .i64) (w0 := ?bw) base rfl (.tmp 11) (.tmp 13) 24 3 (.int .i64 0) 8 rfl Try.underlying24 info3 rfl (by decide) (by omega) v xs y [.int .i64 y] (fun _ => True) (fun _ => False) rfl rfl ?aP (fun _ hk => hk.elim) ?aF ?aO ?aB ?aS ?aL ?_; (case aB => exact Below.refl _ _); (case aP => exact rfl); (case aF => exact (fun _ _ => trivial)); (case aO => exact (HI.out.below (by repeat (first | (with_reducible first | apply below_alloc | apply pw_below_drewN | apply below_drew1) | exact Below.refl _ _))).row); (case aS => exact (HI.out.below (by repeat (first | (with_reducible first | apply below_alloc | apply pw_below_drewN | apply below_drew1) | exact Below.refl _ _))).base_le); (case aL => have := HL.out; omega); intro v1 w16 ho hb hg hat; have n0_ := xA ((HI.out.below (by repeat (first | (with_reducible first | apply below_alloc | apply pw_below_drewN | apply below_drew1) | exact Below.refl _ _))).put ho hb hg); obtain ⟨m1, A1, c1, rfl⟩ := impl_RestsOf_xSl ho; clear HI ho hb hg hat hcz_0 hcz_1 hcz_2 hcz_3 hcz_4 hci0 hco hfo; have HI := n0_; clear n0_) | (refine impl_RestsOf.xSv 3 14 HI.out.box ?_; intro w17 hw; replace HI := xA (HI.out.stored hw); clear hw))
 (first | go_end0 | ((try simp only [Exit.inBlock, Exit.then]); refine bodyPost_ret (results_none rfl _ _ _) rfl ?_))
 exact ⟨by first | rfl | (simp; done), _, HI.out.below (by repeat (first | (with_reducible first | apply below_alloc | apply pw_below_drewN | apply below_drew1) | exact Below.refl _ _))⟩
set_option maxHeartbeats 200000000 in
set_option maxRecDepth 100000 in
theorem impl_RestsOf_all.calls (b0 : Int) (b1 : Bool) (lo hi : Int) (q0 q1 q2 : Nat) (Inv : Int → World → Prop) (w : World) (hE : impl_Word_ends.f b0 b1 = some (lo, hi)) (hlo : -1000000 ≤ lo) (hle : lo ≤ hi + 1) (hhi : hi ≤ 1000000) (Hb : ∀ y w1 w2, Inv y w1 → Below w1.heap.size w1 w2 → Inv y w2)
  (Hs : ∀ y w1, lo ≤ y → y ≤ hi → Inv y w1 → Calls Try.prog 309 #[.int .i64 y, .pointer (some ⟨q0, 0, none⟩), .pointer (some ⟨q1, 0, none⟩), .pointer (some ⟨q2, 0, none⟩)] w1 fun e w2 => e = .returned (.tuple #[]) ∧ Inv (y + 1) w2) (h0 : Inv lo w) :
  Calls Try.prog 308 #[.agg #[.int .i64 b0, .bool b1], .func (.func 309) #[] #[.pointer (some ⟨q0, 0, none⟩), .pointer (some ⟨q1, 0, none⟩), .pointer (some ⟨q2, 0, none⟩)]] w fun e w' => e = .returned (.tuple #[]) ∧ Inv (hi + 1) w' := by
 have hu46 := Try.underlying46
 have HB := xA (Below.refl w.heap.size w)
 have HE := xA hE
 have HI := xA h0
 have HS := xA Hs
 have HM := xA Hb
 have L1 := xA hlo
 have L2 := xA hle
 have L3 := xA hhi
 clear hE h0 Hs Hb hlo hle hhi
 go_enter Try.func308, Try.ntmps308
 go_wp2_with (first | (refine xg 2 rfl ?_; refine xV 2 #[.int .i64 b0, .bool b1] 46 ?_; intro gb1 hg w3 hbox hb; replace HI := xA (HM.out _ _ _ HI.out hb); have BK0 := xA hbox; clear hbox hg hb HB; have hcz_0 := (blk_cell BK0.out 0).trans rfl; have hcz_1 := (blk_cell BK0.out 1).trans rfl) | (go_at_call 261; (with_reducible refine (impl_Word_ends.calls b0 b1 lo hi _ HE.out).mono ?_); rintro e w7 ⟨rfl, hb⟩; replace HI := xA (HM.out _ _ _ (HM.out _ _ _ HI.out (by repeat (first | (with_reducible first | apply below_alloc | apply pw_below_drewN | apply below_drew1) | exact Below.refl _ _))) hb); clear hb hcz_0 hcz_1 BK0))
 go_loopg [6] ((hi + 1 - lo).toNat) (fun kq v6 w' => ∃ y : Int, v6 = .int .i64 y ∧ Aside0 (y + (kq : Int) = hi + 1 ∧ lo ≤ y) ∧ Aside0 (Inv y w'))
 case atStart => exact ⟨lo, rfl, ⟨by have := L2.out; omega⟩, ⟨HM.out _ _ _ HI.out (by repeat (first | (with_reducible first | apply below_alloc | apply pw_below_drewN | apply below_drew1) | exact Below.refl _ _))⟩⟩
 case round =>
  clear HI
  obtain ⟨y, rfl, HY, HI⟩ := hrel
  cases gk with
  | zero =>
   have c := HY.out.1
   have cb : decide (y ≤ hi) = false := decide_eq_false (by omega)
   obtain rfl : y = hi + 1 := by omega
   clear c
   go_wp2
   (first | go_end0 | ((try simp only [Exit.inBlock, Exit.then]); refine bodyPost_ret (results_none rfl _ _ _) rfl ?_))
   exact ⟨by first | rfl | (simp; done), HM.out _ _ _ HI.out (by repeat (first | (with_reducible first | apply below_alloc | apply pw_below_drewN | apply below_drew1) | exact Below.refl _ _))⟩
  | succ k1 =>
   have cc : y ≤ hi := by have := HY.out.1; omega
   have cb : decide (y ≤ hi) = true := decide_eq_true cc
   have CC := xA cc
   clear cc
   go_wp2_with (first | (go_at_call 309; (with_reducible refine (HS.out y _ HY.out.2 CC.out (HM.out _ _ _ HI.out (by repeat (first | (with_reducible first | apply below_alloc | apply pw_below_drewN | apply below_drew1) | exact Below.refl _ _)))).mono ?_); rintro e w7 ⟨rfl, hI⟩; replace HI := xA hI; clear hI))
   go_roundg k1
   case measure => omega
   case rel => exact ⟨y + 1, (by have h1 := L1.out; have h2 := HY.out.2; have h3 := L3.out; have h4 := CC.out; rw [show wrap64 (y + 1) = y + 1 by unfold wrap64; omega]), ⟨by have := HY.out; omega⟩, ⟨HM.out _ _ _ HI.out (by repeat (first | (with_reducible first | apply below_alloc | apply pw_below_drewN | apply below_drew1) | exact Below.refl _ _))⟩⟩
def impl_RestsOf.lp (k : Nat) (b0 b1 b2 b3 : Int) (b4 : Bool) (x : Int) : Nat → Int → List Int → Option (List Int)
 | 0, _, xs => some xs
 | n + 1, y, xs => if xs.length < 17592186044416 then ((impl_First_step.f k b0 b1 b2 b3 b4 y x).bind fun t => impl_RestsOf.lp k b0 b1 b2 b3 b4 x n (y + 1) (if t = y then xs ++ [y] else xs)) else none
theorem impl_RestsOf.lp_mono (k : Nat) (b0 b1 b2 b3 : Int) (b4 : Bool) (x : Int) : ∀ (n : Nat) (y : Int) (xs : List Int), LeO (impl_RestsOf.lp k b0 b1 b2 b3 b4 x n y xs) (impl_RestsOf.lp (k + 1) b0 b1 b2 b3 b4 x n y xs)
 | 0, _, _ => LeO.refl _
 | n + 1, y, xs => by
  have ih := impl_RestsOf.lp_mono k b0 b1 b2 b3 b4 x n
  unfold impl_RestsOf.lp
  exact LeO.ite (LeO.bind (impl_First_step.mono _ _ _ _ _ _ _ _) (fun _ => ih _ _)) (LeO.none _)
def impl_RestsOf.g (k : Nat) (b0 b1 b2 b3 : Int) (b4 : Bool) (x : Int) : Option (List Int × Bool) := (impl_Word_ends.f b3 b4).bind fun e => if -1000000 ≤ e.1 ∧ e.1 ≤ e.2 + 1 ∧ e.2 ≤ 1000000 then (impl_RestsOf.lp k b0 b1 b2 b3 b4 x (e.2 + 1 - e.1).toNat e.1 []).bind (fun r => some (r, true)) else none
theorem impl_RestsOf_scan.calls (k : Nat) (b0 b1 b2 b3 : Int) (b4 : Bool) (lo hi x : Int) (r1 : List Int) (v : Value) (w0 w : World) (base q0 q1 q2 : Nat) (hE : impl_Word_ends.f b3 b4 = some (lo, hi)) (hlo : -1000000 ≤ lo) (hle : lo ≤ hi + 1) (hhi : hi ≤ 1000000) (hL : impl_RestsOf.lp k b0 b1 b2 b3 b4 x (hi + 1 - lo).toNat lo [] = some r1) (hI : impl_RestsOf_I w0 base q0 q1 q2 b0 b1 b2 b3 b4 x v [] w) :
  Calls Try.prog 308 #[.agg #[.int .i64 b3, .bool b4], .func (.func 309) #[] #[.pointer (some ⟨q0, 0, none⟩), .pointer (some ⟨q1, 0, none⟩), .pointer (some ⟨q2, 0, none⟩)]] w fun e w' => e = .returned (.tuple #[]) ∧ ∃ v', impl_RestsOf_I w0 base q0 q1 q2 b0 b1 b2 b3 b4 x v' r1 w' := by
 refine (impl_RestsOf_all.calls b3 b4 lo hi q0 q1 q2 (fun y w1 => ∃ n v xs, y + ((n : Nat) : Int) = hi + 1 ∧ impl_RestsOf.lp k b0 b1 b2 b3 b4 x n y xs = some r1 ∧ impl_RestsOf_I w0 base q0 q1 q2 b0 b1 b2 b3 b4 x v xs w1) w hE hlo hle hhi ?_ ?_ ⟨(hi + 1 - lo).toNat, v, [], by omega, hL, hI⟩).mono ?_
 ·rintro y w1 w2 ⟨n, v, xs, h1, h2, h3⟩ hb
  exact ⟨n, v, xs, h1, h2, h3.below hb⟩
 ·rintro y w1 hy1 hy2 ⟨n, v, xs, h1, h2, h3⟩
  cases n with
  | zero => exact absurd h1 (by omega)
  | succ n =>
   rw [impl_RestsOf.lp] at h2
   by_cases cl : xs.length < 17592186044416
   rotate_left
   ·rw [if_neg cl] at h2
    exact absurd h2 (by simp)
   rw [if_pos cl] at h2
   obtain ⟨t, ht, h2⟩ := Option.bind_eq_some_iff.1 h2
   refine (impl_RestsOf_c1.calls k b0 b1 b2 b3 b4 y x t xs v w0 w1 base q0 q1 q2 h3 cl ht).mono ?_
   rintro e w2 ⟨rfl, v', hv⟩
   exact ⟨rfl, n, v', _, by omega, h2, hv⟩
 ·rintro e w2 ⟨rfl, n, v2, xs, h1, h2, h3⟩
  obtain rfl : n = 0 := by omega
  obtain rfl : xs = r1 := by simpa [impl_RestsOf.lp] using h2
  exact ⟨rfl, v2, h3⟩
def impl_RestsOf.f (k : Nat) (b0 b1 b2 b3 : Int) (b4 : Bool) (x : Int) : Option (List Int × Bool) := (impl_First_isScanned.f b0 b1 b2 b3 b4 x).bind fun t1 => (if t1 = true then (impl_RestsOf.g k b0 b1 b2 b3 b4 x) else (some ([], false)))
theorem impl_RestsOf.mono : ∀ b0 b1 b2 b3 b4 x k, LeO (impl_RestsOf.f k b0 b1 b2 b3 b4 x) (impl_RestsOf.f (k + 1) b0 b1 b2 b3 b4 x) := by
 intro b0 b1 b2 b3 b4 x k
 unfold impl_RestsOf.f impl_RestsOf.g
 repeat' first
 | (with_reducible exact LeO.refl _)
 | (with_reducible exact LeO.none _)
 | (with_reducible refine LeO.ite ?_ ?_)
 | (with_reducible exact LeO.bind (impl_RestsOf.lp_mono k b0 b1 b2 b3 b4 x _ _ _) (fun _ => LeO.refl _))
 | (with_reducible refine LeO.bind (LeO.refl _) (fun _ => ?_))
set_option maxHeartbeats 200000000 in
set_option maxRecDepth 100000 in
theorem impl_RestsOf.calls (k : Nat) (b0 b1 b2 b3 : Int) (b4 : Bool) (x : Int) (r1 : List Int) (r2 : Bool) (w : World) (h : impl_RestsOf.f k b0 b1 b2 b3 b4 x = some (r1, r2)) :
  Calls Try.prog 108 #[.agg #[.int .i64 b0, .int .i64 b1, .int .i64 b2, .int .i64 b3, .bool b4], .int .i64 x] w fun e w' => ∃ v0_ : Value, e = .returned (.tuple #[v0_, .bool r2]) ∧ Kd.R (Kd.int .i64) 3 w' w.heap.size (fun _ => True) v0_ r1 ∧ Below w.heap.size w w' := by
 have hu62 := Try.underlying62
 have HB := xA (Below.refl w.heap.size w)
 unfold impl_RestsOf.f at h
 obtain ⟨t1, A10, H⟩ := Option.bind_eq_some_iff.mp h
 clear h
 have A1 := xA A10
 clear A10
 by_cases c1 : t1 = true
 rotate_left
 ·replace c1 := Bool.eq_false_iff.mpr c1
  subst c1
  rw [if_neg (show ¬ (false = true) by decide)] at H
  simp only [Option.some.injEq, Prod.mk.injEq] at H
  obtain ⟨rfl, rfl⟩ := H
  go_enter Try.func108, Try.ntmps108
  go_wp2_with (first | (refine xg 2 rfl ?_; refine xV 2 #[.int .i64 b0, .int .i64 b1, .int .i64 b2, .int .i64 b3, .bool b4] 62 ?_; intro q0 hg w20 hbox hb; have k_ := xA hbox; clear hbox; have n_ := xA (below_step (xB HB.out) hb); clear HB  hb; have HB := n_; clear n_; have BK0 := k_; clear k_ hg; obtain ⟨hcz_0, hcz_1, hcz_2, hcz_3, hcz_4, -⟩ := impl_RestsOf_xZ5c BK0.out; skip) | (refine xg 3 rfl ?_; refine xV 3 #[.int .i64 x] 3 ?_; intro q1 hg w21 hbox hb; clear hcz_0 hcz_1 hcz_2 hcz_3 hcz_4; have k_ := xA hbox; clear hbox; have n_ := xA (below_step (xB HB.out) hb); have m0_ := xA (blk_below (by ((with_reducible repeat (first | refine blk_drewN ?_ _ | refine blk_drew ?_ | refine blk_alloc ?_ _)); exact BK0.out)) hb); clear HB BK0 hb; have HB := n_; clear n_; have BK0 := m0_; clear m0_; have BK1 := k_; clear k_ hg; obtain ⟨hcz_0, hcz_1, hcz_2, hcz_3, hcz_4, -⟩ := impl_RestsOf_xZ5c BK0.out; obtain ⟨hci1, -⟩ := impl_RestsOf_xZ1c BK1.out; skip) | (go_at_call 304; (with_reducible refine (impl_First_isScanned.calls b0 b1 b2 b3 b4 x false _ A1.out).mono ?_); rintro e w30 ⟨rfl, hb⟩; clear hcz_0 hcz_1 hcz_2 hcz_3 hcz_4 hci1; have n_ := xA (below_step (xB HB.out) hb); have m0_ := xA (blk_below (by ((with_reducible repeat (first | refine blk_drewN ?_ _ | refine blk_drew ?_ | refine blk_alloc ?_ _)); exact BK0.out)) hb); have m1_ := xA (blk_below (by ((with_reducible repeat (first | refine blk_drewN ?_ _ | refine blk_drew ?_ | refine blk_alloc ?_ _)); exact BK1.out)) hb); clear HB BK0 BK1 hb; have HB := n_; clear n_; have BK0 := m0_; clear m0_; have BK1 := m1_; clear m1_; obtain ⟨hcz_0, hcz_1, hcz_2, hcz_3, hcz_4, -⟩ := impl_RestsOf_xZ5c BK0.out; obtain ⟨hci1, -⟩ := impl_RestsOf_xZ1c BK1.out; skip))
  go_ret2
  exact ⟨_, by first | rfl | (simp; done) | (simp [*]; done), Kd.R_nil _ _ _ _ _, (xB HB.out)⟩
 subst c1
 rw [if_pos rfl] at H
 unfold impl_RestsOf.g at H
 obtain ⟨⟨lo, hi⟩, HE0, H⟩ := Option.bind_eq_some_iff.mp H
 have HE := xA HE0
 clear HE0
 by_cases cL : -1000000 ≤ lo ∧ lo ≤ hi + 1 ∧ hi ≤ 1000000
 rotate_left
 ·simp only at H
  rw [if_neg cL] at H
  exact absurd H (by simp)
 simp only at H
 rw [if_pos cL] at H
 have L1 := xA cL.1
 have L2 := xA cL.2.1
 have L3 := xA cL.2.2
 clear cL
 obtain ⟨rr, LP0, H⟩ := Option.bind_eq_some_iff.mp H
 simp only [Option.some.injEq, Prod.mk.injEq] at H
 obtain ⟨rfl, rfl⟩ := H
 have LP := xA LP0
 clear LP0
 go_enter Try.func108, Try.ntmps108
 go_wp2_with (first | (refine xg 2 rfl ?_; refine xV 2 #[.int .i64 b0, .int .i64 b1, .int .i64 b2, .int .i64 b3, .bool b4] 62 ?_; intro q0 hg w20 hbox hb; have k_ := xA hbox; clear hbox; have n_ := xA (below_step (xB HB.out) hb); clear HB  hb; have HB := n_; clear n_; have BK0 := k_; clear k_ hg; obtain ⟨hcz_0, hcz_1, hcz_2, hcz_3, hcz_4, -⟩ := impl_RestsOf_xZ5c BK0.out; skip) | (refine xg 3 rfl ?_; refine xV 3 #[.int .i64 x] 3 ?_; intro q1 hg w21 hbox hb; clear hcz_0 hcz_1 hcz_2 hcz_3 hcz_4; have k_ := xA hbox; clear hbox; have n_ := xA (below_step (xB HB.out) hb); have m0_ := xA (blk_below (by ((with_reducible repeat (first | refine blk_drewN ?_ _ | refine blk_drew ?_ | refine blk_alloc ?_ _)); exact BK0.out)) hb); clear HB BK0 hb; have HB := n_; clear n_; have BK0 := m0_; clear m0_; have BK1 := k_; clear k_ hg; obtain ⟨hcz_0, hcz_1, hcz_2, hcz_3, hcz_4, -⟩ := impl_RestsOf_xZ5c BK0.out; obtain ⟨hci1, -⟩ := impl_RestsOf_xZ1c BK1.out; skip) | (go_at_call 304; (with_reducible refine (impl_First_isScanned.calls b0 b1 b2 b3 b4 x true _ A1.out).mono ?_); rintro e w30 ⟨rfl, hb⟩; clear hcz_0 hcz_1 hcz_2 hcz_3 hcz_4 hci1; have n_ := xA (below_step (xB HB.out) hb); have m0_ := xA (blk_below (by ((with_reducible repeat (first | refine blk_drewN ?_ _ | refine blk_drew ?_ | refine blk_alloc ?_ _)); exact BK0.out)) hb); have m1_ := xA (blk_below (by ((with_reducible repeat (first | refine blk_drewN ?_ _ | refine blk_drew ?_ | refine blk_alloc ?_ _)); exact BK1.out)) hb); clear HB BK0 BK1 hb; have HB := n_; clear n_; have BK0 := m0_; clear m0_; have BK1 := m1_; clear m1_; obtain ⟨hcz_0, hcz_1, hcz_2, hcz_3, hcz_4, -⟩ := impl_RestsOf_xZ5c BK0.out; obtain ⟨hci1, -⟩ := impl_RestsOf_xZ1c BK1.out; skip) | ((with_reducible refine gate_dst (N := 11) rfl ?_); refine Kd.R_lit (Kd.int .i64) (w0 := w30) w30.heap.size 3 ?hg (N := 11) ?hd (xs := ([] : List Int)) (inner := []) (ok := fun _ => True) (okp := fun _ => True) ?hr ?hp (fun _ hk => hk) trivial ?hb2 ?hs2 (by simp) ?_; (case hd => rfl); (case hg => rfl); (case hr => first | (go_simp; done) | (go_simp; rfl)); (case hp => exact (Reps.none _ _)); (case hb2 => exact (by repeat (first | (with_reducible first | apply below_alloc | apply pw_below_drewN | apply below_drew1) | exact Below.refl _ _))); (case hs2 => exact below_size (by repeat (first | (with_reducible first | apply below_alloc | apply pw_below_drewN | apply below_drew1) | exact Below.refl _ _))); intro v1 w40 ho hb _ _; obtain ⟨m1, A1, c1, rfl⟩ := impl_RestsOf_xSl ho; have HO := xA ho; have HS := xA hb.size; clear ho; have LB := xA (below_size HB.out); have LQ := xA (show q0 < w30.heap.size ∧ q1 < w30.heap.size from ⟨blk_lt BK0.out, blk_lt BK1.out⟩); clear hcz_0 hcz_1 hcz_2 hcz_3 hcz_4 hci1; have n_ := xA (below_step (xB HB.out) hb); have m0_ := xA (blk_below (by ((with_reducible repeat (first | refine blk_drewN ?_ _ | refine blk_drew ?_ | refine blk_alloc ?_ _)); exact BK0.out)) hb); have m1_ := xA (blk_below (by ((with_reducible repeat (first | refine blk_drewN ?_ _ | refine blk_drew ?_ | refine blk_alloc ?_ _)); exact BK1.out)) hb); clear HB BK0 BK1 hb; have HB := n_; clear n_; have BK0 := m0_; clear m0_; have BK1 := m1_; clear m1_; obtain ⟨hcz_0, hcz_1, hcz_2, hcz_3, hcz_4, -⟩ := impl_RestsOf_xZ5c BK0.out; obtain ⟨hci1, -⟩ := impl_RestsOf_xZ1c BK1.out; skip) | (refine xg 6 rfl ?_; refine xV 6 #[.slice none 0 0] 24 ?_; intro q2 hg w41 hbox hb; have k_ := xA hbox; clear hbox; have g_ := xA (show w.heap.size ≤ q2 by rw [hg]; exact below_size (xB HB.out)); have o_ := xA (Kd.R_below HO.out (below_step (by repeat (first | (with_reducible first | apply below_alloc | apply pw_below_drewN | apply below_drew1) | exact Below.refl _ _)) hb)); have s_ := xA (Nat.le_trans HS.out hb.size); clear HO HS; have HO := o_; have HS := s_; clear o_ s_; have n_ := xA (below_step (xB HB.out) hb); have m0_ := xA (blk_below (by ((with_reducible repeat (first | refine blk_drewN ?_ _ | refine blk_drew ?_ | refine blk_alloc ?_ _)); exact BK0.out)) hb); have m1_ := xA (blk_below (by ((with_reducible repeat (first | refine blk_drewN ?_ _ | refine blk_drew ?_ | refine blk_alloc ?_ _)); exact BK1.out)) hb); clear HB BK0 BK1 hb; have HB := n_; clear n_; have BK0 := m0_; clear m0_; have BK1 := m1_; clear m1_; have BK9 := k_; have HG := g_; clear k_ g_ hg; have HJ := xA (show impl_RestsOf_J w w30.heap.size q0 q1 q2 b0 b1 b2 b3 b4 x (.slice none 0 0) (.slice A1 m1 c1) [] w41 from ⟨⟨BK0.out, LQ.out.1, BK1.out, LQ.out.2⟩, BK9.out, HO.out, ⟨HB.out, LB.out, HS.out, HG.out⟩⟩); clear HB HO HS HG LB LQ BK9 BK0 BK1 hcz_0 hcz_1 hcz_2 hcz_3 hcz_4 hci1; skip) | (refine impl_RestsOf.xSv 6 11 HJ.out.box ?_; intro w42 hw; have HI := xA (HJ.out.stored hw); clear hw HJ; obtain ⟨hq0, -, hi0, -, ho, -⟩ := HI.out; obtain ⟨hcz_0, hcz_1, hcz_2, hcz_3, hcz_4, -⟩ := impl_RestsOf_xZ5c hq0; obtain ⟨hco, hfo⟩ := impl_RestsOf_xZ1c ho; clear hq0 ho hi0) | (go_at_call 308; (with_reducible refine (impl_RestsOf_scan.calls k b0 b1 b2 b3 b4 lo hi x _ (.slice A1 m1 c1) w _ w30.heap.size q0 q1 q2 HE.out L1.out L2.out L3.out LP.out (HI.out.below (by repeat (first | (with_reducible first | apply below_alloc | apply pw_below_drewN | apply below_drew1) | exact Below.refl _ _)))).mono ?_); rintro e w43 ⟨rfl, v2, hI⟩; replace HI := xA hI; clear hI hcz_0 hcz_1 hcz_2 hcz_3 hcz_4 hco hfo; obtain ⟨hq0, -, hi0, -, ho, -⟩ := HI.out; obtain ⟨hcz_0, hcz_1, hcz_2, hcz_3, hcz_4, -⟩ := impl_RestsOf_xZ5c hq0; obtain ⟨hco, hfo⟩ := impl_RestsOf_xZ1c ho; clear hq0 ho hi0))
 go_ret2
 exact ⟨_, by first | rfl | (simp; done) | (simp [*]; done), impl_RestsOf_I.fin HI.out (by repeat (first | (with_reducible first | apply below_alloc | apply pw_below_drewN | apply below_drew1) | exact Below.refl _ _))⟩

/-! ### spec_foBefore: function 310 -/
def spec_foBefore.l0 : Nat → Int → List Int → Int → Int → Int → Int → Int → Bool → Bool → Int → Option (List Int)
 | 0, _, _, _, _, _, _, _, _, _, _ => none
 | k + 1, x1, x7, x8, x383000, x383001, x383002, x383003, x383004, x384000, x384001 => (spec_wdHigh.f x383003 x383004).bind fun t385 => (if x8 ≤ t385 then ((spec_foStep.f k x383000 x383001 x383002 x383003 x383004 x8 x1).bind fun t386 => (if x384000 = true then (if t386 = x8 then (if x7.length < 17592186044416 then (spec_foBefore.l0 k x1 (x7 ++ [x8]) (wrap64 (x8 + 1)) x383000 x383001 x383002 x383003 x383004 x384000 x384001) else (none)) else (spec_foBefore.l0 k x1 x7 (wrap64 (x8 + 1)) x383000 x383001 x383002 x383003 x383004 x384000 x384001)) else (if t386 = x384001 then (if x7.length < 17592186044416 then (spec_foBefore.l0 k x1 (x7 ++ [x8]) (wrap64 (x8 + 1)) x383000 x383001 x383002 x383003 x383004 x384000 x384001) else (none)) else (spec_foBefore.l0 k x1 x7 (wrap64 (x8 + 1)) x383000 x383001 x383002 x383003 x383004 x384000 x384001)))) else (some x7))
def spec_foBefore.f (k : Nat) (a0_0 : Int) (a0_1 : Int) (a0_2 : Int) (a0_3 : Int) (a0_4 : Bool) (a1 : Int) (a2_0 : Bool) (a2_1 : Int) : Option (List Int) := (spec_wdLow.f a0_3 a0_4).bind fun t384 => (spec_foBefore.l0 k a1 ([] : List Int) t384 a0_0 a0_1 a0_2 a0_3 a0_4 a2_0 a2_1)
theorem spec_foBefore.mono_l : ∀ k, (∀ y0 y1 y2 y3 y4 y5 y6 y7 y8 y9, LeO (spec_foBefore.l0 k y0 y1 y2 y3 y4 y5 y6 y7 y8 y9) (spec_foBefore.l0 (k + 1) y0 y1 y2 y3 y4 y5 y6 y7 y8 y9))
 | 0 => fun _ _ _ _ _ _ _ _ _ _ r h => by simp [spec_foBefore.l0] at h
 | k + 1 => by
  have ih0 := spec_foBefore.mono_l k
  have m0 := @spec_foStep.mono
  intros
  unfold spec_foBefore.l0
  exact xM
theorem spec_foBefore.mono : ∀ a0 a1 a2 a3 a4 a5 a6 a7 k, LeO (spec_foBefore.f k a0 a1 a2 a3 a4 a5 a6 a7) (spec_foBefore.f (k + 1) a0 a1 a2 a3 a4 a5 a6 a7) := by
 intro a0 a1 a2 a3 a4 a5 a6 a7 k
 have ih0 := spec_foBefore.mono_l k
 have m0 := @spec_foStep.mono
 unfold spec_foBefore.f
 exact xM
set_option maxHeartbeats 200000000 in
set_option maxRecDepth 100000 in
theorem spec_foBefore.calls (k : Nat) (a0_0 : Int) (a0_1 : Int) (a0_2 : Int) (a0_3 : Int) (a0_4 : Bool) (a1 : Int) (a2_0 : Bool) (a2_1 : Int) (r : List Int) (w : World) (h : spec_foBefore.f k a0_0 a0_1 a0_2 a0_3 a0_4 a1 a2_0 a2_1 = some r) :
  Calls Try.prog 310 #[.agg #[.int .i64 a0_0, .int .i64 a0_1, .int .i64 a0_2, .int .i64 a0_3, .bool a0_4], .int .i64 a1, .agg #[.bool a2_0, .int .i64 a2_1]] w fun e w' => ∃ v0_ : Value, e = .returned (v0_) ∧ Kd.R (Kd.int .i64) 3 w' w.heap.size (fun _ => True) v0_ r ∧ Below w.heap.size w w' := by
 have hu62 := Try.underlying62
 have hu173 := Try.underlying173
 have hu46 := Try.underlying46
 have HB := xA (Below.refl w.heap.size w)
 have H : ((spec_wdLow.f a0_3 a0_4).bind fun t384 => (spec_foBefore.l0 k a1 ([] : List Int) t384 a0_0 a0_1 a0_2 a0_3 a0_4 a2_0 a2_1)) = some r := h
 clear h
 obtain ⟨t384, A4, H⟩ := xO H
 (try dsimp only at H)
 have H' := xA H
 clear H
 go_enter Try.func310, Try.ntmps310
 go_wp2_with (first | (refine xg 3 rfl ?_; refine xV 3 #[.int .i64 a0_0, .int .i64 a0_1, .int .i64 a0_2, .int .i64 a0_3, .bool a0_4] 62 ?_; intro gb382 hg w5 hbox hb; have BK382 := xA (hbox); have GW382 := xgw hg (below_size (xB HB.out)); have GE382 := GW382; replace HB := xA (below_step (xB HB.out) hb); clear hb hbox hg) | (refine xg 5 rfl ?_; refine xV 5 #[.bool a2_0, .int .i64 a2_1] 173 ?_; intro gb383 hg w6 hbox hb; have BK383 := xA (hbox); have GW383 := xgw hg (below_size (xB1 GE382.out HB.out)); have GE383 := GW383; replace HB := xA (below_step (xB1 GE382.out HB.out) hb); have NB382_383 := xnl hg BK382; have NB383_382 := xng hg BK382; replace BK382 := xkb BK382 hb; clear hb hbox hg; have hnb7 := NB382_383.out; have hnc7 := NB383_382.out; obtain ⟨hcz8_0, hcz8_1, hcz8_2, hcz8_3, hcz8_4, hfz8_0, hfz8_1, hfz8_2, hfz8_3, hfz8_4⟩ := xZ5 BK382.out) | (refine xG (some 12) Try.func268 #[.agg #[.int .i64 a0_3, .bool a0_4]] ?_; (with_reducible refine (spec_wdLow.calls a0_3 a0_4 t384 _ A4.out).mono ?_); rintro e w9 ⟨rfl, hb⟩; refine ⟨_, rfl, ?_⟩; replace BK382 := xkb BK382 hb; replace BK383 := xkb BK383 hb; replace HB := xA (below_step (xB2 GE382.out GE383.out HB.out) hb); (try clear hb)))
 go_loopg [7, 8] k (fun kq v7 v8 w' => ∃ (x7_1 : List Int) (x8_1 : Int), v8 = .int .i64 x8_1 ∧ Aside0 (spec_foBefore.l0 kq a1 x7_1 x8_1 a0_0 a0_1 a0_2 a0_3 a0_4 a2_0 a2_1 = some r) ∧ Aside0 (kq ≤ k) ∧ Aside0 (Kd.R (Kd.int .i64) 3 w' w.heap.size (fun _ => True) v7 x7_1) ∧ Aside0 (w'.heap[gb382]? = some (.cells #[.int .i64 a0_0, .int .i64 a0_1, .int .i64 a0_2, .int .i64 a0_3, .bool a0_4] 62 (0, 0))) ∧ Aside0 (w'.heap[gb383]? = some (.cells #[.bool a2_0, .int .i64 a2_1] 173 (0, 0))) ∧ Aside0 (Below w.heap.size w w'))
 case atStart => exact ⟨(([] : List Int)), (t384), xs, H', ⟨Nat.le_refl _⟩, ⟨by first | exact Kd.R_nil _ _ _ _ _ | exact Kd.N_nil _ _ _ _ _ | exact Kd.V_nil _ _ _ _ _ | exact Kd.Q_nil _ _ _ _ _ | exact Kd.S_nil _ _ _ _ _⟩, ⟨xK BK382.out⟩, ⟨xK BK383.out⟩, ⟨xB2 GE382.out GE383.out HB.out⟩⟩
 case round =>
  clear H'
  try clear hcz8_0
  try clear hcz8_1
  try clear hcz8_2
  try clear hcz8_3
  try clear hcz8_4
  try clear hfz8_0
  try clear hfz8_1
  try clear hfz8_2
  try clear hfz8_3
  try clear hfz8_4
  obtain ⟨x7_1, x8_1, rfl, HA, HK1, HO_7, BK382, BK383, HB⟩ := hrel
  cases gk with
  | zero => exact absurd HA.out (by simp [spec_foBefore.l0])
  | succ k1 =>
   have H := HA.out
   clear HA
   simp only [spec_foBefore.l0] at H
   obtain ⟨t385, A10, H⟩ := xO H
   (try dsimp only at H)
   by_cases c11 : x8_1 ≤ t385
   rotate_left
   ·rw [if_neg c11] at H
    have c11b0 : decide (x8_1 ≤ t385) = false := decide_eq_false c11
    clear c11
    obtain rfl := Option.some.inj H
    have hnb44 := NB382_383.out
    have hnc44 := NB383_382.out
    replace hz382 := blk_cell BK382.out; replace hy382 := blk_frozen BK382.out
    go_wp2_with (first | (refine xG (some 16) Try.func269 #[.agg #[.int .i64 a0_3, .bool a0_4]] ?_; (with_reducible refine (spec_wdHigh.calls a0_3 a0_4 t385 _ A10.out).mono ?_); rintro e w46 ⟨rfl, hb⟩; refine ⟨_, rfl, ?_⟩; replace HO_7 := xA (Kd.R_below (xR HO_7.out) hb); replace BK382 := xkb BK382 hb; replace BK383 := xkb BK383 hb; replace HB := xA (below_step (xB2 GE382.out GE383.out HB.out) hb); (try clear hb)))
    go_ret
    exact ⟨_, xr, xR HO_7.out, xB2 GE382.out GE383.out HB.out⟩

   rw [if_pos c11] at H
   have c11b0 : decide (x8_1 ≤ t385) = true := decide_eq_true c11
   clear c11
   obtain ⟨t386, A12, H⟩ := xO H
   (try dsimp only at H)
   by_cases c13 : a2_0 = true
   ·subst c13
    rw [if_pos rfl] at H
    by_cases c14 : t386 = x8_1
    rotate_left
    ·rw [if_neg c14] at H
     have c14b0 : (t386 == x8_1) = false := beq_eq_false_iff_ne.mpr c14
     have c14b1 : (t386 != x8_1) = true := bne_iff_ne.mpr c14
     have H' := xA H
     clear H
     have hnb23 := NB382_383.out
     have hnc23 := NB383_382.out
     replace hz382 := blk_cell BK382.out; replace hy382 := blk_frozen BK382.out
     go_wp2_with (first | (refine xq rfl ?_; first | (refine xG (some 16) Try.func269 #[.agg #[.int .i64 a0_3, .bool a0_4]] ?_; (with_reducible refine (spec_wdHigh.calls a0_3 a0_4 t385 _ A10.out).mono ?_); rintro e w25 ⟨rfl, hb⟩; refine ⟨_, rfl, ?_⟩; replace HO_7 := xA (Kd.R_below (xR HO_7.out) hb); replace BK382 := xkb BK382 hb; replace BK383 := xkb BK383 hb; replace HB := xA (below_step (xB2 GE382.out GE383.out HB.out) hb); (try clear hb); replace hz382 := blk_cell BK382.out; replace hy382 := blk_frozen BK382.out) | (refine xG (some 23) Try.func302 #[.agg #[.int .i64 a0_0, .int .i64 a0_1, .int .i64 a0_2, .int .i64 a0_3, .bool a0_4], .int .i64 x8_1, .int .i64 a1] ?_; (with_reducible refine (spec_foStep.calls k1 a0_0 a0_1 a0_2 a0_3 a0_4 x8_1 a1 t386 _ A12.out).mono ?_); rintro e w27 ⟨rfl, hb⟩; refine ⟨_, rfl, ?_⟩; replace HO_7 := xA (Kd.R_below (xR HO_7.out) hb); replace BK382 := xkb BK382 hb; replace BK383 := xkb BK383 hb; replace HB := xA (below_step (xB2 GE382.out GE383.out HB.out) hb); (try clear hb); replace hz383 := blk_cell BK383.out; replace hy383 := blk_frozen BK383.out)))
     go_roundg k1
     case measure => have := HK1.out; omega
     case rel => exact ⟨(x7_1), (wrap64 (x8_1 + 1)), xs, H', ⟨by have := HK1.out; omega⟩, ⟨xR HO_7.out⟩, ⟨xK BK382.out⟩, ⟨xK BK383.out⟩, ⟨xB2 GE382.out GE383.out HB.out⟩⟩
    rw [if_pos c14] at H
    have c14b0 : (t386 == x8_1) = true := beq_iff_eq.mpr c14
    have c14b1 : (t386 != x8_1) = false := bne_eq_false_iff_eq.mpr c14
    clear c14
    by_cases c15 : x7_1.length < 17592186044416
    rotate_left
    ·rw [if_neg c15] at H
     exact absurd H (by simp)
    rw [if_pos c15] at H
    have LMc15 := xA c15
    clear c15
    obtain ⟨y387, hy387⟩ : ∃ y_ : List Int, y_ = (x7_1 ++ [x8_1]) := ⟨_, rfl⟩
    replace H : (spec_foBefore.l0 k1 a1 y387 (wrap64 (x8_1 + 1)) a0_0 a0_1 a0_2 a0_3 a0_4 true a2_1) = some r := by first | (rw [hy387]; with_reducible exact H) | (have H2_ := (Option.bind_some _ _).symm.trans H; rw [hy387]; with_reducible exact H2_) | (have H2_ := (Option.bind_some _ _).symm.trans H; with_reducible exact H2_) | with_reducible exact H | (rw [hy387]; exact H) | exact H
    have Ny387 := xA hy387
    clear hy387
    have H' := xA H
    clear H
    have hnb16 := NB382_383.out
    have hnc16 := NB383_382.out
    replace hz382 := blk_cell BK382.out; replace hy382 := blk_frozen BK382.out
    go_wp2_with (first | (refine xq rfl ?_; first | (refine xG (some 16) Try.func269 #[.agg #[.int .i64 a0_3, .bool a0_4]] ?_; (with_reducible refine (spec_wdHigh.calls a0_3 a0_4 t385 _ A10.out).mono ?_); rintro e w18 ⟨rfl, hb⟩; refine ⟨_, rfl, ?_⟩; replace HO_7 := xA (Kd.R_below (xR HO_7.out) hb); replace BK382 := xkb BK382 hb; replace BK383 := xkb BK383 hb; replace HB := xA (below_step (xB2 GE382.out GE383.out HB.out) hb); (try clear hb); replace hz382 := blk_cell BK382.out; replace hy382 := blk_frozen BK382.out) | (refine xG (some 23) Try.func302 #[.agg #[.int .i64 a0_0, .int .i64 a0_1, .int .i64 a0_2, .int .i64 a0_3, .bool a0_4], .int .i64 x8_1, .int .i64 a1] ?_; (with_reducible refine (spec_foStep.calls k1 a0_0 a0_1 a0_2 a0_3 a0_4 x8_1 a1 t386 _ A12.out).mono ?_); rintro e w20 ⟨rfl, hb⟩; refine ⟨_, rfl, ?_⟩; replace HO_7 := xA (Kd.R_below (xR HO_7.out) hb); replace BK382 := xkb BK382 hb; replace BK383 := xkb BK383 hb; replace HB := xA (below_step (xB2 GE382.out GE383.out HB.out) hb); (try clear hb); replace hz383 := blk_cell BK383.out; replace hy383 := blk_frozen BK383.out; refine Hid.out ?_)))
    refine xHid ?_
    go_wp2_with (first | ((with_reducible refine gate_builtin (b := .append) (xs := #[.tmp 42, .tmp 44]) rfl ?_); refine Hid.out ?_))
    refine xHid ?_
    at_builtin
    refine Kd.R_append (Kd.int .i64) (w0 := w) w.heap.size rfl (.tmp 42) (.tmp 44) 24 3 (.int .i64 0) 8 rfl Try.underlying24 info3 rfl (by decide) (by omega) u7 x7_1 x8_1 [.int .i64 x8_1] (fun _ => True) (fun _ => False) rfl rfl ?aP (fun _ hk => hk.elim) ?aF ?aO ?aB ?aS ?aL ?_
    (case aP => exact rfl)
    (case aB => exact (xB2 GE382.out GE383.out HB.out))
    (case aF => exact (fun _ _ => trivial))
    (case aO => exact (xR HO_7.out))
    (case aS => exact (below_size (xB2 GE382.out GE383.out HB.out)))
    (case aL => have := LMc15.out; omega)
    intro v388 w22 ho hb hg hat
    rw [← Ny387.out] at ho
    replace BK382 := xA (blk_grown (xK BK382.out) hg (Kd.R_ne HO_7.out BK382.out (by decide)))
    replace BK383 := xA (blk_grown (xK BK383.out) hg (Kd.R_ne HO_7.out BK383.out (by decide)))
    replace HB := xA (hb)
    have HO389 := xA (ho)
    clear HO_7
    clear ho hb hg hat
    go_wp2
    go_roundg k1
    case measure => have := HK1.out; omega
    case rel => exact ⟨(y387), (wrap64 (x8_1 + 1)), xs, H', ⟨by have := HK1.out; omega⟩, ⟨xR HO389.out⟩, ⟨xK BK382.out⟩, ⟨xK BK383.out⟩, ⟨xB2 GE382.out GE383.out HB.out⟩⟩
   replace c13 := Bool.eq_false_iff.mpr c13
   subst c13
   rw [if_neg (show ¬ (false = true) by decide)] at H
   by_cases c29 : t386 = a2_1
   rotate_left
   ·rw [if_neg c29] at H
    have c29b0 : (t386 == a2_1) = false := beq_eq_false_iff_ne.mpr c29
    have c29b1 : (t386 != a2_1) = true := bne_iff_ne.mpr c29
    have H' := xA H
    clear H
    have hnb38 := NB382_383.out
    have hnc38 := NB383_382.out
    replace hz382 := blk_cell BK382.out; replace hy382 := blk_frozen BK382.out
    go_wp2_with (first | (refine xq rfl ?_; first | (refine xG (some 16) Try.func269 #[.agg #[.int .i64 a0_3, .bool a0_4]] ?_; (with_reducible refine (spec_wdHigh.calls a0_3 a0_4 t385 _ A10.out).mono ?_); rintro e w40 ⟨rfl, hb⟩; refine ⟨_, rfl, ?_⟩; replace HO_7 := xA (Kd.R_below (xR HO_7.out) hb); replace BK382 := xkb BK382 hb; replace BK383 := xkb BK383 hb; replace HB := xA (below_step (xB2 GE382.out GE383.out HB.out) hb); (try clear hb); replace hz382 := blk_cell BK382.out; replace hy382 := blk_frozen BK382.out) | (refine xG (some 23) Try.func302 #[.agg #[.int .i64 a0_0, .int .i64 a0_1, .int .i64 a0_2, .int .i64 a0_3, .bool a0_4], .int .i64 x8_1, .int .i64 a1] ?_; (with_reducible refine (spec_foStep.calls k1 a0_0 a0_1 a0_2 a0_3 a0_4 x8_1 a1 t386 _ A12.out).mono ?_); rintro e w42 ⟨rfl, hb⟩; refine ⟨_, rfl, ?_⟩; replace HO_7 := xA (Kd.R_below (xR HO_7.out) hb); replace BK382 := xkb BK382 hb; replace BK383 := xkb BK383 hb; replace HB := xA (below_step (xB2 GE382.out GE383.out HB.out) hb); (try clear hb); replace hz383 := blk_cell BK383.out; replace hy383 := blk_frozen BK383.out)))
    go_roundg k1
    case measure => have := HK1.out; omega
    case rel => exact ⟨(x7_1), (wrap64 (x8_1 + 1)), xs, H', ⟨by have := HK1.out; omega⟩, ⟨xR HO_7.out⟩, ⟨xK BK382.out⟩, ⟨xK BK383.out⟩, ⟨xB2 GE382.out GE383.out HB.out⟩⟩
   rw [if_pos c29] at H
   have c29b0 : (t386 == a2_1) = true := beq_iff_eq.mpr c29
   have c29b1 : (t386 != a2_1) = false := bne_eq_false_iff_eq.mpr c29
   clear c29
   by_cases c30 : x7_1.length < 17592186044416
   rotate_left
   ·rw [if_neg c30] at H
    exact absurd H (by simp)
   rw [if_pos c30] at H
   have LMc30 := xA c30
   clear c30
   obtain ⟨y390, hy390⟩ : ∃ y_ : List Int, y_ = (x7_1 ++ [x8_1]) := ⟨_, rfl⟩
   replace H : (spec_foBefore.l0 k1 a1 y390 (wrap64 (x8_1 + 1)) a0_0 a0_1 a0_2 a0_3 a0_4 false a2_1) = some r := by first | (rw [hy390]; with_reducible exact H) | (have H2_ := (Option.bind_some _ _).symm.trans H; rw [hy390]; with_reducible exact H2_) | (have H2_ := (Option.bind_some _ _).symm.trans H; with_reducible exact H2_) | with_reducible exact H | (rw [hy390]; exact H) | exact H
   have Ny390 := xA hy390
   clear hy390
   have H' := xA H
   clear H
   have hnb31 := NB382_383.out
   have hnc31 := NB383_382.out
   replace hz382 := blk_cell BK382.out; replace hy382 := blk_frozen BK382.out
   go_wp2_with (first | (refine xq rfl ?_; first | (refine xG (some 16) Try.func269 #[.agg #[.int .i64 a0_3, .bool a0_4]] ?_; (with_reducible refine (spec_wdHigh.calls a0_3 a0_4 t385 _ A10.out).mono ?_); rintro e w33 ⟨rfl, hb⟩; refine ⟨_, rfl, ?_⟩; replace HO_7 := xA (Kd.R_below (xR HO_7.out) hb); replace BK382 := xkb BK382 hb; replace BK383 := xkb BK383 hb; replace HB := xA (below_step (xB2 GE382.out GE383.out HB.out) hb); (try clear hb); replace hz382 := blk_cell BK382.out; replace hy382 := blk_frozen BK382.out) | (refine xG (some 23) Try.func302 #[.agg #[.int .i64 a0_0, .int .i64 a0_1, .int .i64 a0_2, .int .i64 a0_3, .bool a0_4], .int .i64 x8_1, .int .i64 a1] ?_; (with_reducible refine (spec_foStep.calls k1 a0_0 a0_1 a0_2 a0_3 a0_4 x8_1 a1 t386 _ A12.out).mono ?_); rintro e w35 ⟨rfl, hb⟩; refine ⟨_, rfl, ?_⟩; replace HO_7 := xA (Kd.R_below (xR HO_7.out) hb); replace BK382 := xkb BK382 hb; replace BK383 := xkb BK383 hb; replace HB := xA (below_step (xB2 GE382.out GE383.out HB.out) hb); (try clear hb); replace hz383 := blk_cell BK383.out; replace hy383 := blk_frozen BK383.out; refine Hid.out ?_)))
   refine xHid ?_
   go_wp2_with (first | ((with_reducible refine gate_builtin (b := .append) (xs := #[.tmp 42, .tmp 44]) rfl ?_); refine Hid.out ?_))
   refine xHid ?_
   at_builtin
   refine Kd.R_append (Kd.int .i64) (w0 := w) w.heap.size rfl (.tmp 42) (.tmp 44) 24 3 (.int .i64 0) 8 rfl Try.underlying24 info3 rfl (by decide) (by omega) u7 x7_1 x8_1 [.int .i64 x8_1] (fun _ => True) (fun _ => False) rfl rfl ?aP (fun _ hk => hk.elim) ?aF ?aO ?aB ?aS ?aL ?_
   (case aP => exact rfl)
   (case aB => exact (xB2 GE382.out GE383.out HB.out))
   (case aF => exact (fun _ _ => trivial))
   (case aO => exact (xR HO_7.out))
   (case aS => exact (below_size (xB2 GE382.out GE383.out HB.out)))
   (case aL => have := LMc30.out; omega)
   intro v391 w37 ho hb hg hat
   rw [← Ny390.out] at ho
   replace BK382 := xA (blk_grown (xK BK382.out) hg (Kd.R_ne HO_7.out BK382.out (by decide)))
   replace BK383 := xA (blk_grown (xK BK383.out) hg (Kd.R_ne HO_7.out BK383.out (by decide)))
   replace HB := xA (hb)
   have HO392 := xA (ho)
   clear HO_7
   clear ho hb hg hat
   go_wp2
   go_roundg k1
   case measure => have := HK1.out; omega
   case rel => exact ⟨(y390), (wrap64 (x8_1 + 1)), xs, H', ⟨by have := HK1.out; omega⟩, ⟨xR HO392.out⟩, ⟨xK BK382.out⟩, ⟨xK BK383.out⟩, ⟨xB2 GE382.out GE383.out HB.out⟩⟩
/-! ### spec_RestsOf: function 109 -/
def spec_RestsOf.f (k : Nat) (a0_0 : Int) (a0_1 : Int) (a0_2 : Int) (a0_3 : Int) (a0_4 : Bool) (a1 : Int) : Option (List Int × Bool) := (spec_foScan.f a0_0 a0_1 a0_2 a0_3 a0_4 a1).bind fun t394 => (if t394 = true then ((spec_foBefore.f k a0_0 a0_1 a0_2 a0_3 a0_4 a1 true 0).bind fun t395 => (some (t395, true))) else (some (([] : List Int), false)))
theorem spec_RestsOf.mono : ∀ a0 a1 a2 a3 a4 a5 k, LeO (spec_RestsOf.f k a0 a1 a2 a3 a4 a5) (spec_RestsOf.f (k + 1) a0 a1 a2 a3 a4 a5) := by
 intro a0 a1 a2 a3 a4 a5 k
 have m0 := @spec_foBefore.mono
 unfold spec_RestsOf.f
 exact xM
set_option maxHeartbeats 200000000 in
set_option maxRecDepth 100000 in
theorem spec_RestsOf.calls (k : Nat) (a0_0 : Int) (a0_1 : Int) (a0_2 : Int) (a0_3 : Int) (a0_4 : Bool) (a1 : Int) (r1 : List Int) (r2 : Bool) (w : World) (h : spec_RestsOf.f k a0_0 a0_1 a0_2 a0_3 a0_4 a1 = some (r1, r2)) :
  Calls Try.prog 109 #[.agg #[.int .i64 a0_0, .int .i64 a0_1, .int .i64 a0_2, .int .i64 a0_3, .bool a0_4], .int .i64 a1] w fun e w' => ∃ v0_ : Value, e = .returned (.tuple #[v0_, .bool r2]) ∧ Kd.R (Kd.int .i64) 3 w' w.heap.size (fun _ => True) v0_ r1 ∧ Below w.heap.size w w' := by
 have hu62 := Try.underlying62
 have hu173 := Try.underlying173
 have HB := xA (Below.refl w.heap.size w)
 have H : ((spec_foScan.f a0_0 a0_1 a0_2 a0_3 a0_4 a1).bind fun t394 => (if t394 = true then ((spec_foBefore.f k a0_0 a0_1 a0_2 a0_3 a0_4 a1 true 0).bind fun t395 => (some (t395, true))) else (some (([] : List Int), false)))) = some (r1, r2) := h
 clear h
 obtain ⟨t394, A3, H⟩ := xO H
 (try dsimp only at H)
 by_cases c4 : t394 = true
 rotate_left
 ·replace c4 := Bool.eq_false_iff.mpr c4
  subst c4
  rw [if_neg (show ¬ (false = true) by decide)] at H
  simp only [Option.some.injEq, Prod.mk.injEq] at H
  obtain ⟨rfl, rfl⟩ := H
  go_enter Try.func109, Try.ntmps109
  go_wp2_with (first | (refine xg 2 rfl ?_; refine xV 2 #[.int .i64 a0_0, .int .i64 a0_1, .int .i64 a0_2, .int .i64 a0_3, .bool a0_4] 62 ?_; intro gb393 hg w11 hbox hb; have BK393 := xA (hbox); have GW393 := xgw hg (below_size (xB HB.out)); have GE393 := GW393; replace HB := xA (below_step (xB HB.out) hb); clear hb hbox hg; obtain ⟨hcz12_0, hcz12_1, hcz12_2, hcz12_3, hcz12_4, hfz12_0, hfz12_1, hfz12_2, hfz12_3, hfz12_4⟩ := xZ5 BK393.out) | (refine xG (some 8) Try.func306 #[.agg #[.int .i64 a0_0, .int .i64 a0_1, .int .i64 a0_2, .int .i64 a0_3, .bool a0_4], .int .i64 a1] ?_; (with_reducible refine (spec_foScan.calls a0_0 a0_1 a0_2 a0_3 a0_4 a1 false _ A3.out).mono ?_); rintro e w13 ⟨rfl, hb⟩; refine ⟨_, rfl, ?_⟩; replace BK393 := xkb BK393 hb; replace HB := xA (below_step (xB1 GE393.out HB.out) hb); (try clear hb)))
  go_ret2
  exact ⟨_, xr, by first | exact Kd.R_nil _ _ _ _ _ | exact Kd.N_nil _ _ _ _ _ | exact Kd.V_nil _ _ _ _ _ | exact Kd.Q_nil _ _ _ _ _ | exact Kd.S_nil _ _ _ _ _, xB1 GE393.out HB.out⟩

 subst c4
 rw [if_pos rfl] at H
 obtain ⟨t395, A5, H⟩ := xO H
 (try dsimp only at H)
 simp only [Option.some.injEq, Prod.mk.injEq] at H
 obtain ⟨rfl, rfl⟩ := H
 go_enter Try.func109, Try.ntmps109
 go_wp2_with (first | (refine xq rfl ?_; first | (refine xG (some 8) Try.func306 #[.agg #[.int .i64 a0_0, .int .i64 a0_1, .int .i64 a0_2, .int .i64 a0_3, .bool a0_4], .int .i64 a1] ?_; (with_reducible refine (spec_foScan.calls a0_0 a0_1 a0_2 a0_3 a0_4 a1 true _ A3.out).mono ?_); rintro e w8 ⟨rfl, hb⟩; refine ⟨_, rfl, ?_⟩; replace BK393 := xkb BK393 hb; replace HB := xA (below_step (xB1 GE393.out HB.out) hb); (try clear hb); obtain ⟨hcz9_0, hcz9_1, hcz9_2, hcz9_3, hcz9_4, hfz9_0, hfz9_1, hfz9_2, hfz9_3, hfz9_4⟩ := xZ5 BK393.out) | (refine xG (some 13) Try.func310 #[.agg #[.int .i64 a0_0, .int .i64 a0_1, .int .i64 a0_2, .int .i64 a0_3, .bool a0_4], .int .i64 a1, .agg #[.bool true, .int .i64 0]] ?_; (with_reducible refine (spec_foBefore.calls k a0_0 a0_1 a0_2 a0_3 a0_4 a1 true 0 t395 _ A5.out).mono ?_); rintro e w10 ⟨v396, rfl, ho0, hb⟩; refine ⟨_, rfl, ?_⟩; have HO397 := xA (Kd.R_lower ho0 (below_size (xB1 GE393.out HB.out))); replace BK393 := xkb BK393 hb; replace HB := xA (below_step (xB1 GE393.out HB.out) hb); (try clear hb); (try clear ho0))) | (refine xg 2 rfl ?_; refine xV 2 #[.int .i64 a0_0, .int .i64 a0_1, .int .i64 a0_2, .int .i64 a0_3, .bool a0_4] 62 ?_; intro gb393 hg w6 hbox hb; have BK393 := xA (hbox); have GW393 := xgw hg (below_size (xB HB.out)); have GE393 := GW393; replace HB := xA (below_step (xB HB.out) hb); clear hb hbox hg; obtain ⟨hcz7_0, hcz7_1, hcz7_2, hcz7_3, hcz7_4, hfz7_0, hfz7_1, hfz7_2, hfz7_3, hfz7_4⟩ := xZ5 BK393.out))
 go_ret2
 exact ⟨_, xr, xR HO397.out, xB1 GE393.out HB.out⟩
/-! ### laws_uRows: function 110 -/
def laws_uRows.l0 : Nat → List (List Int) → List (List Int) → Int → Int → Option (Bool)
 | 0, _, _, _, _ => none
 | k + 1, x0, x1, x12, x13 => if x13 < x12 then (if 0 ≤ x13 then (if x13 < (x0.length : Int) then (if x13 < (x1.length : Int) then ((laws_uSame.f k (rd_L5 x0 x13) (rd_L5 x1 x13)).bind fun t400 => (if t400 = true then (laws_uRows.l0 k x0 x1 x12 (wrap64 (x13 + 1))) else (some false))) else (none)) else (none)) else (none)) else (some true)
def laws_uRows.f (k : Nat) (l0 : List (List Int)) (l1 : List (List Int)) : Option (Bool) := if (l0.length : Int) = (l1.length : Int) then (laws_uRows.l0 k l0 l1 (l0.length : Int) 0) else (some false)
theorem laws_uRows.mono_l : ∀ k, (∀ y0 y1 y2 y3, LeO (laws_uRows.l0 k y0 y1 y2 y3) (laws_uRows.l0 (k + 1) y0 y1 y2 y3))
 | 0 => fun _ _ _ _ r h => by simp [laws_uRows.l0] at h
 | k + 1 => by
  have ih0 := laws_uRows.mono_l k
  have m0 := @laws_uSame.mono
  intros
  unfold laws_uRows.l0
  exact xM
theorem laws_uRows.mono : ∀ a0 a1 k, LeO (laws_uRows.f k a0 a1) (laws_uRows.f (k + 1) a0 a1) := by
 intro a0 a1 k
 have ih0 := laws_uRows.mono_l k
 have m0 := @laws_uSame.mono
 unfold laws_uRows.f
 exact xM
set_option maxHeartbeats 200000000 in
set_option maxRecDepth 100000 in
theorem laws_uRows.calls (k : Nat) (A0 : Option Addr) (c0 : Nat) (l0 : List (List Int)) (A1 : Option Addr) (c1 : Nat) (l1 : List (List Int)) (r : Bool) (w : World) (hr0 : Kd.C (Kd.slice 3 (Kd.int .i64)) w A0 l0.length l0) (hc0 : l0.length ≤ c0) (hr1 : Kd.C (Kd.slice 3 (Kd.int .i64)) w A1 l1.length l1) (hc1 : l1.length ≤ c1) (h : laws_uRows.f k l0 l1 = some r) :
  Calls Try.prog 110 #[.slice A0 l0.length c0, .slice A1 l1.length c1] w fun e w' => e = .returned (.bool r) ∧ Drawn0 w w' := by
 have HR0 := xA hr0
 have HC0 := xA hc0
 clear hr0 hc0
 have HR1 := xA hr1
 have HC1 := xA hc1
 clear hr1 hc1
 have H : (if (l0.length : Int) = (l1.length : Int) then (laws_uRows.l0 k l0 l1 (l0.length : Int) 0) else (some false)) = some r := h
 clear h
 by_cases c3 : (l0.length : Int) = (l1.length : Int)
 rotate_left
 ·rw [if_neg c3] at H
  have c3b0 : ((l0.length : Int) == (l1.length : Int)) = false := beq_eq_false_iff_ne.mpr c3
  have c3b1 : ((l0.length : Int) != (l1.length : Int)) = true := bne_iff_ne.mpr c3
  have c3b2 : (l0.length == l1.length) = false := by first | simpa using c3 | (simp at c3 ⊢; omega)
  obtain rfl := Option.some.inj H
  go_enter Try.func110, Try.ntmps110
  go_wp2
  repeat (go_quiet (fail); try go_wp2)
  go_ret
  exact ⟨by first | rfl | (simp; done) | (simp [*]; done), by repeat (first | exact Drawn0.refl _ | apply Drawn0.step)⟩

 rw [if_pos c3] at H
 have c3b0 : ((l0.length : Int) == (l1.length : Int)) = true := beq_iff_eq.mpr c3
 have c3b1 : ((l0.length : Int) != (l1.length : Int)) = false := bne_eq_false_iff_eq.mpr c3
 have c3b2 : (l0.length == l1.length) = true := by first | simpa using c3 | (simp at c3 ⊢; omega)
 clear c3
 have H' := xA H
 clear H
 go_enter Try.func110, Try.ntmps110
 go_wp2
 repeat (go_quiet (fail); try go_wp2)
 go_loopg [13] k (fun kq v13 w' => ∃ (x13_1 : Int), v13 = .int .i64 x13_1 ∧ Aside0 (laws_uRows.l0 kq l0 l1 (l0.length : Int) x13_1 = some r) ∧ Aside0 (kq ≤ k) ∧ Drawn0 w w')
 case atStart => exact ⟨(0), xs, H', ⟨Nat.le_refl _⟩, by repeat (first | exact Drawn0.refl _ | apply Drawn0.step)⟩
 case round =>
  clear H'
  try clear c1
  try clear c3b0
  try clear c3b1
  try clear c3b2
  obtain ⟨x13_1, rfl, HA, HK1, ⟨m1, rfl⟩⟩ := hrel
  cases gk with
  | zero => exact absurd HA.out (by simp [laws_uRows.l0])
  | succ k1 =>
   have H := HA.out
   clear HA
   simp only [laws_uRows.l0] at H
   by_cases c4 : x13_1 < (l0.length : Int)
   rotate_left
   ·rw [if_neg c4] at H
    have c4b0 : decide (x13_1 < (l0.length : Int)) = false := decide_eq_false c4
    clear c4
    obtain rfl := Option.some.inj H
    go_wp2
    repeat (go_quiet (fail); try go_wp2)
    go_ret
    exact ⟨by first | rfl | (simp; done) | (simp [*]; done), by repeat (first | exact Drawn0.refl _ | apply Drawn0.step)⟩
   rw [if_pos c4] at H
   have c4b0 : decide (x13_1 < (l0.length : Int)) = true := decide_eq_true c4
   clear c4
   by_cases c5 : 0 ≤ x13_1
   rotate_left
   ·rw [if_neg c5] at H
    exact absurd H (by simp)
   rw [if_pos c5] at H
   have c5b0 : decide (0 ≤ x13_1) = true := decide_eq_true c5
   clear c5
   by_cases c6 : x13_1 < (l0.length : Int)
   rotate_left
   ·rw [if_neg c6] at H
    exact absurd H (by simp)
   rw [if_pos c6] at H
   have c6b0 : decide (x13_1 < (l0.length : Int)) = true := decide_eq_true c6
   clear c6
   by_cases c7 : x13_1 < (l1.length : Int)
   rotate_left
   ·rw [if_neg c7] at H
    exact absurd H (by simp)
   rw [if_pos c7] at H
   have c7b0 : decide (x13_1 < (l1.length : Int)) = true := decide_eq_true c7
   clear c7
   obtain ⟨t400, A8, H⟩ := xO H
   (try dsimp only at H)
   by_cases c9 : t400 = true
   rotate_left
   ·replace c9 := Bool.eq_false_iff.mpr c9
    subst c9
    rw [if_neg (show ¬ (false = true) by decide)] at H
    obtain rfl := Option.some.inj H
    have p398 : 0 ≤ (x13_1 : Int) := of_decide_eq_true (by first | (with_reducible assumption) | assumption)
    have q398 : x13_1 < (l0.length : Int) := of_decide_eq_true (by first | (with_reducible assumption) | assumption)
    obtain ⟨ad398, A398_0, c398_0, e398, hx398_0, hl398_0, hi398_0⟩ := at_L5 HR0.out x13_1 p398 q398
    cases e398
    have HR398_0 := xA hi398_0
    have HC398_0 := xA hl398_0
    clear hi398_0 hl398_0
    replace p398 := eq_true p398
    replace q398 := eq_true q398
    have p399 : 0 ≤ (x13_1 : Int) := of_decide_eq_true (by first | (with_reducible assumption) | assumption)
    have q399 : x13_1 < (l1.length : Int) := of_decide_eq_true (by first | (with_reducible assumption) | assumption)
    obtain ⟨ad399, A399_0, c399_0, e399, hx399_0, hl399_0, hi399_0⟩ := at_L5 HR1.out x13_1 p399 q399
    cases e399
    have HR399_0 := xA hi399_0
    have HC399_0 := xA hl399_0
    clear hi399_0 hl399_0
    replace p399 := eq_true p399
    replace q399 := eq_true q399
    go_wp2_with (first | (go_at_call 44; (with_reducible refine (laws_uSame.calls k1 _ _ (rd_L5 l0 x13_1) _ _ (rd_L5 l1 x13_1) false _ ?side1 ?side2 ?side3 ?side4 A8.out).mono ?_); (case side1 => exact xC HR398_0.out); (case side2 => exact HC398_0.out); (case side3 => exact xC HR399_0.out); (case side4 => exact HC399_0.out); rintro e w' ⟨rfl, ⟨nd, rfl⟩⟩; (try exact xD)))
    repeat (go_quiet (first | (go_at_call 44; (with_reducible refine (laws_uSame.calls k1 _ _ (rd_L5 l0 x13_1) _ _ (rd_L5 l1 x13_1) false _ ?side1 ?side2 ?side3 ?side4 A8.out).mono ?_); (case side1 => exact xC HR398_0.out); (case side2 => exact HC398_0.out); (case side3 => exact xC HR399_0.out); (case side4 => exact HC399_0.out); rintro e w' ⟨rfl, ⟨nd, rfl⟩⟩; (try exact xD))); try go_wp2_with (first | (go_at_call 44; (with_reducible refine (laws_uSame.calls k1 _ _ (rd_L5 l0 x13_1) _ _ (rd_L5 l1 x13_1) false _ ?side1 ?side2 ?side3 ?side4 A8.out).mono ?_); (case side1 => exact xC HR398_0.out); (case side2 => exact HC398_0.out); (case side3 => exact xC HR399_0.out); (case side4 => exact HC399_0.out); rintro e w' ⟨rfl, ⟨nd, rfl⟩⟩; (try exact xD))))
    go_ret
    exact ⟨by first | rfl | (simp; done) | (simp [*]; done), by repeat (first | exact Drawn0.refl _ | apply Drawn0.step)⟩
   subst c9
   rw [if_pos rfl] at H
   have H' := xA H
   clear H
   have p398 : 0 ≤ (x13_1 : Int) := of_decide_eq_true (by first | (with_reducible assumption) | assumption)
   have q398 : x13_1 < (l0.length : Int) := of_decide_eq_true (by first | (with_reducible assumption) | assumption)
   obtain ⟨ad398, A398_0, c398_0, e398, hx398_0, hl398_0, hi398_0⟩ := at_L5 HR0.out x13_1 p398 q398
   cases e398
   have HR398_0 := xA hi398_0
   have HC398_0 := xA hl398_0
   clear hi398_0 hl398_0
   replace p398 := eq_true p398
   replace q398 := eq_true q398
   have p399 : 0 ≤ (x13_1 : Int) := of_decide_eq_true (by first | (with_reducible assumption) | assumption)
   have q399 : x13_1 < (l1.length : Int) := of_decide_eq_true (by first | (with_reducible assumption) | assumption)
   obtain ⟨ad399, A399_0, c399_0, e399, hx399_0, hl399_0, hi399_0⟩ := at_L5 HR1.out x13_1 p399 q399
   cases e399
   have HR399_0 := xA hi399_0
   have HC399_0 := xA hl399_0
   clear hi399_0 hl399_0
   replace p399 := eq_true p399
   replace q399 := eq_true q399
   go_wp2_with (first | (go_at_call 44; (with_reducible refine (laws_uSame.calls k1 _ _ (rd_L5 l0 x13_1) _ _ (rd_L5 l1 x13_1) true _ ?side1 ?side2 ?side3 ?side4 A8.out).mono ?_); (case side1 => exact xC HR398_0.out); (case side2 => exact HC398_0.out); (case side3 => exact xC HR399_0.out); (case side4 => exact HC399_0.out); rintro e w' ⟨rfl, ⟨nd, rfl⟩⟩; (try exact xD)))
   repeat (go_quiet (first | (go_at_call 44; (with_reducible refine (laws_uSame.calls k1 _ _ (rd_L5 l0 x13_1) _ _ (rd_L5 l1 x13_1) true _ ?side1 ?side2 ?side3 ?side4 A8.out).mono ?_); (case side1 => exact xC HR398_0.out); (case side2 => exact HC398_0.out); (case side3 => exact xC HR399_0.out); (case side4 => exact HC399_0.out); rintro e w' ⟨rfl, ⟨nd, rfl⟩⟩; (try exact xD))); try go_wp2_with (first | (go_at_call 44; (with_reducible refine (laws_uSame.calls k1 _ _ (rd_L5 l0 x13_1) _ _ (rd_L5 l1 x13_1) true _ ?side1 ?side2 ?side3 ?side4 A8.out).mono ?_); (case side1 => exact xC HR398_0.out); (case side2 => exact HC398_0.out); (case side3 => exact xC HR399_0.out); (case side4 => exact HC399_0.out); rintro e w' ⟨rfl, ⟨nd, rfl⟩⟩; (try exact xD))))
   go_roundg k1
   case measure => have := HK1.out; omega
   case rel => exact ⟨(wrap64 (x13_1 + 1)), xs, H', ⟨by have := HK1.out; omega⟩, by repeat (first | exact Drawn0.refl _ | apply Drawn0.step)⟩
end Go.Proofs.Ytjplcongellcmaa.PFnFirstCycles
