/- What each Go function that the statement FnFirstRuns reaches answers, proved call by call. No condition beyond those that the theorems print. (Written by wip/tools/xprint.py of this repo, over the kit's print.) -/
import Derived.Test.YtjplcongellcmaaPFnFirstRunsx0
namespace Go.Proofs.Ytjplcongellcmaa.PFnFirstRuns
open Go.RowKit Go.Proofs.YtjplcongellcmaaW.PrintWords Go.Proofs.YtjplcongellcmaaW.PrintLast Go.Proofs.YtjplcongellcmaaW.PrintMore
attribute [local go_sem] max2_int min2_int max_two min_two max_three min_three max_four min_four   -- for this text's walks alone
set_option linter.unusedVariables false
set_option linter.unusedSimpArgs false

/-- A state of type 129 at block g of W; what its slices lead to came in by w0. -/
def IsS129 (w0 W : World) (g : Nat) (f0 : List Int) (f1 : Int) (f2 : Int) : Prop := ∃ A0 c0, W.heap[g]? = some (.cells #[.slice A0 f0.length c0, .int .i64 f1, .int .u64 f2] 129 (0, 0)) ∧ w0.heap.size ≤ g ∧ Kd.C (Kd.int .u8) w0 A0 f0.length f0
theorem IsS129.grown {w0 W : World} {g : Nat} {f0 : List Int} {f1 : Int} {f2 : Int} {W1 : World} {row : Option Nat} (h : IsS129 w0 W g f0 f1 f2) (hw : W.grownBy W1 row) (hne : some g ≠ row) : IsS129 w0 W1 g f0 f1 f2 := by
 obtain ⟨A0, c0, hb, hg, hr0⟩ := h
 exact ⟨A0, c0, blk_grown hb hw hne, hg, hr0⟩
theorem IsS129.own_neN {w0 W : World} {g : Nat} {f0 : List Int} {f1 : Int} {f2 : Int} {α : Type} {d : Kd α} {e : Nat} {base : Nat} {ok : Nat → Prop} {v : Value} {xs : List α} (h : IsS129 w0 W g f0 f1 f2) (ho : Kd.N d e W base ok v xs) (ht : e ≠ 129) : some g ≠ v.ownBlock := by
 obtain ⟨A0, c0, hb, hg, hr0⟩ := h
 exact Kd.N_ne ho hb ht
theorem IsS129.fresh {w0 W : World} {g : Nat} {f0 : List Int} {f1 : Int} {f2 : Int} (h : IsS129 w0 W g f0 f1 f2) : ∀ k, W.heap.size ≤ k → k ≠ g := by
 obtain ⟨A0, c0, hb, hg, hr0⟩ := h
 exact Kd.freshB hb
theorem IsS129.kept {w0 W : World} {g : Nat} {f0 : List Int} {f1 : Int} {f2 : Int} {W1 : World} {S : Nat → Prop} (h : IsS129 w0 W g f0 f1 f2) (hk : Kept W W1 S) (hne : ¬ S g) : IsS129 w0 W1 g f0 f1 f2 := by
 obtain ⟨A0, c0, hb, hg, hr0⟩ := h
 exact ⟨A0, c0, blk_kept hb hk hne, hg, hr0⟩
theorem IsS129.below {w0 W : World} {g : Nat} {f0 : List Int} {f1 : Int} {f2 : Int} {W1 : World} (h : IsS129 w0 W g f0 f1 f2) (hw : Below W.heap.size W W1) : IsS129 w0 W1 g f0 f1 f2 := h.grown (grown_of_below hw none) (by simp)
theorem IsS129.alloc {w0 W : World} {g : Nat} {f0 : List Int} {f1 : Int} {f2 : Int} (h : IsS129 w0 W g f0 f1 f2) (o : Obj) : IsS129 w0 (W.alloc o) g f0 f1 f2 := h.below (below_alloc (Below.refl _ _) o)
theorem IsS129.drewN {w0 W : World} {g : Nat} {f0 : List Int} {f1 : Int} {f2 : Int} (h : IsS129 w0 W g f0 f1 f2) (m : Nat) : IsS129 w0 (W.drewN m) g f0 f1 f2 := h
theorem IsS129.drew {w0 W : World} {g : Nat} {f0 : List Int} {f1 : Int} {f2 : Int} (h : IsS129 w0 W g f0 f1 f2) : IsS129 w0 W.drew g f0 f1 f2 := h
theorem IsS129.at_ {w0 W : World} {g : Nat} {f0 : List Int} {f1 : Int} {f2 : Int} {w' : World} {m : Nat} (hq : W.drewN m = w') (h : IsS129 w0 W g f0 f1 f2) : IsS129 w0 w' g f0 f1 f2 := by subst hq; exact IsS129.drewN h m
theorem IsS129.apart {w0 W : World} {g : Nat} {f0 : List Int} {f1 : Int} {f2 : Int} {α : Type} {d : Kd α} {e : Nat} {base : Nat} {ok : Nat → Prop} {v : Value} {xs : List α} (h : IsS129 w0 W g f0 f1 f2) (ho : d.R e W base ok v xs) (ht : ∀ q, q ∈ e :: d.E → q ≠ 129) : d.R e W base (fun k => ok k ∧ k ≠ g) v xs := by
 obtain ⟨A0, c0, hb, hg, hr0⟩ := h
 exact Kd.R_types ho hb ht
theorem IsS129.own_ne {w0 W : World} {g : Nat} {f0 : List Int} {f1 : Int} {f2 : Int} {α : Type} {d : Kd α} {e : Nat} {base : Nat} {ok : Nat → Prop} {v : Value} {xs : List α} (h : IsS129 w0 W g f0 f1 f2) (ho : d.R e W base ok v xs) (ht : e ≠ 129) : some g ≠ v.ownBlock := by
 obtain ⟨A0, c0, hb, hg, hr0⟩ := h
 exact Kd.R_ne ho hb ht
theorem IsS129.apartQ {w0 W : World} {g : Nat} {f0 : List Int} {f1 : Int} {f2 : Int} {α : Type} {d : Kd α} {e : Nat} {base : Nat} {ok : Nat → Prop} {v : Value} {xs : List α} (h : IsS129 w0 W g f0 f1 f2) (ho : d.Q e W base ok v xs) (ht : ∀ q, q ∈ e :: d.E → q ≠ 129) : d.Q e W base (fun k => ok k ∧ k ≠ g) v xs := by
 obtain ⟨A0, c0, hb, hg, hr0⟩ := h
 exact Kd.Q_types ho hb ht
theorem IsS129.own_neQ {w0 W : World} {g : Nat} {f0 : List Int} {f1 : Int} {f2 : Int} {α : Type} {d : Kd α} {e : Nat} {base : Nat} {ok : Nat → Prop} {v : Value} {xs : List α} (h : IsS129 w0 W g f0 f1 f2) (ho : d.Q e W base ok v xs) (ht : e ≠ 129) : some g ≠ v.ownBlock := by
 obtain ⟨A0, c0, hb, hg, hr0⟩ := h
 exact Kd.Q_ne ho hb ht
theorem IsS129.apartS {w0 W : World} {g : Nat} {f0 : List Int} {f1 : Int} {f2 : Int} {α : Type} {d : Kd α} {e : Nat} {base : Nat} {ok : Nat → Prop} {v : Value} {xs : List α} (h : IsS129 w0 W g f0 f1 f2) (ho : d.S e W base ok v xs) (ht : ∀ q, q ∈ e :: d.E → q ≠ 129) : d.S e W base (fun k => ok k ∧ k ≠ g) v xs := by
 obtain ⟨A0, c0, hb, hg, hr0⟩ := h
 exact Kd.S_types ho hb ht
theorem IsS129.own_neS {w0 W : World} {g : Nat} {f0 : List Int} {f1 : Int} {f2 : Int} {α : Type} {d : Kd α} {e : Nat} {base : Nat} {ok : Nat → Prop} {v : Value} {xs : List α} (h : IsS129 w0 W g f0 f1 f2) (ho : d.S e W base ok v xs) (ht : e ≠ 129) : some g ≠ v.ownBlock := by
 obtain ⟨A0, c0, hb, hg, hr0⟩ := h
 exact Kd.S_ne ho hb ht
theorem IsS129.lt {w0 W : World} {g : Nat} {f0 : List Int} {f1 : Int} {f2 : Int} (h : IsS129 w0 W g f0 f1 f2) : g < W.heap.size := by
 obtain ⟨A0, c0, hb, hg, hr0⟩ := h
 exact blk_lt hb
theorem IsS129.ge {w0 W : World} {g : Nat} {f0 : List Int} {f1 : Int} {f2 : Int} (h : IsS129 w0 W g f0 f1 f2) : w0.heap.size ≤ g := by
 obtain ⟨A0, c0, hb, hg, hr0⟩ := h
 exact hg
theorem IsS129.ne_blk {w0 W : World} {g : Nat} {f0 : List Int} {f1 : Int} {f2 : Int} {a : Nat} {cs : Array Value} {t : TypeId} {fr : Nat × Nat} (h : IsS129 w0 W g f0 f1 f2) (hb2 : W.heap[a]? = some (.cells cs t fr)) (ht : t ≠ 129) : g ≠ a := by
 obtain ⟨A0, c0, hb, hg, hr0⟩ := h
 rintro rfl
 rw [hb] at hb2
 injection hb2 with hb2
 injection hb2 with _ ht2
 exact ht ht2.symm
theorem IsS129.far {w0 W : World} {g : Nat} {f0 : List Int} {f1 : Int} {f2 : Int} {p : Addr} (h : IsS129 w0 W g f0 f1 f2) (hne : g ≠ p.block) (u : Value) : IsS129 w0 (W.setCell p u) g f0 f1 f2 := by
 obtain ⟨A0, c0, hb, hg, hr0⟩ := h
 exact ⟨A0, c0, blk_far hb hne u, hg, hr0⟩
theorem cellS129_0 {W : World} {g : Nat} {A0 : Option Addr} {c0 : Nat} {f0 : List Int} {f1 : Int} {f2 : Int} (h : W.heap[g]? = some (.cells #[.slice A0 f0.length c0, .int .i64 f1, .int .u64 f2] 129 (0, 0))) : W.cell? ⟨g, 0, none⟩ = some (.slice A0 f0.length c0) := (blk_cell h 0).trans rfl
theorem cellS129_1 {W : World} {g : Nat} {A0 : Option Addr} {c0 : Nat} {f0 : List Int} {f1 : Int} {f2 : Int} (h : W.heap[g]? = some (.cells #[.slice A0 f0.length c0, .int .i64 f1, .int .u64 f2] 129 (0, 0))) : W.cell? ⟨g, 1, none⟩ = some (.int .i64 f1) := (blk_cell h 1).trans rfl
theorem IsS129.set_1 {w0 W : World} {g : Nat} {f0 : List Int} {f1 : Int} {f2 : Int} (h : IsS129 w0 W g f0 f1 f2) (x : Int) : IsS129 w0 (W.setCell ⟨g, 1, none⟩ (.int .i64 x)) g f0 x f2 := by
 obtain ⟨A0, c0, hb, hg, hr0⟩ := h
 exact ⟨A0, c0, by simpa using blk_set hb 1 (.int .i64 x), hg, hr0⟩
theorem cellS129_2 {W : World} {g : Nat} {A0 : Option Addr} {c0 : Nat} {f0 : List Int} {f1 : Int} {f2 : Int} (h : W.heap[g]? = some (.cells #[.slice A0 f0.length c0, .int .i64 f1, .int .u64 f2] 129 (0, 0))) : W.cell? ⟨g, 2, none⟩ = some (.int .u64 f2) := (blk_cell h 2).trans rfl
theorem IsS129.set_2 {w0 W : World} {g : Nat} {f0 : List Int} {f1 : Int} {f2 : Int} (h : IsS129 w0 W g f0 f1 f2) (x : Int) : IsS129 w0 (W.setCell ⟨g, 2, none⟩ (.int .u64 x)) g f0 f1 x := by
 obtain ⟨A0, c0, hb, hg, hr0⟩ := h
 exact ⟨A0, c0, by simpa using blk_set hb 2 (.int .u64 x), hg, hr0⟩
theorem IsS129.new (w0 W : World) (A0 : Option Addr) (c0 : Nat) (f0 : List Int) (f1 : Int) (f2 : Int) (hB : Below w0.heap.size w0 W) (hr0 : Kd.C (Kd.int .u8) w0 A0 f0.length f0) : IsS129 w0 (W.alloc (.cells #[.slice A0 f0.length c0, .int .i64 f1, .int .u64 f2] 129)) W.heap.size f0 f1 f2 := ⟨A0, c0, by simpa using heap_alloc_new W _, hB.size, hr0⟩

theorem xJ129_12_2 {c d p q : Prop} (a : c) (b : d) (h : p) (g : c → d → p → q := by intro a_ b_ h_; repeat (first | (with_reducible first | exact h_ | apply IsS129.alloc | apply IsS129.drewN | apply IsS129.drew | apply IsS129.set_1 | apply IsS129.set_2 | refine IsS129.far ?_ a_ _ | refine IsS129.far ?_ b_ _) | exact h_)) : q := g a b h
theorem xJ129_12_1 {c p q : Prop} (a : c) (h : p) (g : c → p → q := by intro a_ h_; repeat (first | (with_reducible first | exact h_ | apply IsS129.alloc | apply IsS129.drewN | apply IsS129.drew | apply IsS129.set_1 | apply IsS129.set_2 | refine IsS129.far ?_ a_ _) | exact h_)) : q := g a h
theorem xJ129_12_0 {p q : Prop} (h : p) (g : p → q := by intro h_; repeat (first | (with_reducible first | exact h_ | apply IsS129.alloc | apply IsS129.drewN | apply IsS129.drew | apply IsS129.set_1 | apply IsS129.set_2) | exact h_)) : q := g h
/-! ### spec_l1Cur_next: function 368 -/
def spec_l1Cur_next.f (s0_0 : List Int) (s0_1 : Int) (s0_2 : Int) : Option (Int × Int × Int) := if s0_1 < (s0_0.length : Int) then (if 0 ≤ s0_1 then (if (wrap64 (s0_1 + 1)) ≤ (s0_0.length : Int) then (some (wrap64 (rd s0_0 s0_1), wrap64 (s0_1 + 1), IntKind.u64.wrap ((IntKind.u64.wrap ((IntKind.u64.wrap (s0_2 * 6364136223846793005)) + (IntKind.u64.wrap (wrap64 (rd s0_0 s0_1))))) + 1442695040888963407))) else (some (wrap64 (Go.bits .and .u64 ((IntKind.u64.wrap ((IntKind.u64.wrap ((IntKind.u64.wrap (s0_2 * 6364136223846793005)) + (IntKind.u64.wrap (wrap64 (rd s0_0 s0_1))))) + 1442695040888963407)) / 1099511627776) 255), wrap64 (s0_1 + 1), IntKind.u64.wrap ((IntKind.u64.wrap ((IntKind.u64.wrap (s0_2 * 6364136223846793005)) + (IntKind.u64.wrap (wrap64 (rd s0_0 s0_1))))) + 1442695040888963407)))) else (none)) else (if (wrap64 (s0_1 + 1)) ≤ (s0_0.length : Int) then (some (0, wrap64 (s0_1 + 1), IntKind.u64.wrap ((IntKind.u64.wrap ((IntKind.u64.wrap (s0_2 * 6364136223846793005)))) + 1442695040888963407))) else (some (wrap64 (Go.bits .and .u64 ((IntKind.u64.wrap ((IntKind.u64.wrap ((IntKind.u64.wrap (s0_2 * 6364136223846793005)))) + 1442695040888963407)) / 1099511627776) 255), wrap64 (s0_1 + 1), IntKind.u64.wrap ((IntKind.u64.wrap ((IntKind.u64.wrap (s0_2 * 6364136223846793005)))) + 1442695040888963407))))
set_option maxHeartbeats 200000000 in
set_option maxRecDepth 100000 in
theorem spec_l1Cur_next.calls (g : Nat) (s0_0 : List Int) (s0_1 : Int) (s0_2 : Int) (r1 : Int) (r2 : Int) (r3 : Int) (w0 w : World) (hI : IsS129 w0 w g s0_0 s0_1 s0_2) (hB : Below w0.heap.size w0 w) (h : spec_l1Cur_next.f s0_0 s0_1 s0_2 = some (r1, r2, r3)) :
  Calls Try.prog 368 #[.pointer (some ⟨g, 0, none⟩)] w fun e w' => e = .returned (.int .i64 r1) ∧ IsS129 w0 w' g s0_0 r2 r3 ∧ Below w0.heap.size w0 w' ∧ KeepBut w w' g none := by
 have HI0 := xA hI
 have HK := xA (KeepBut.refl w g none)
 have HL := xA hB.size
 clear hI
 have HW0 := xA hB.size
 have HB := xA hB
 clear hB
 have H : (if s0_1 < (s0_0.length : Int) then (if 0 ≤ s0_1 then (if (wrap64 (s0_1 + 1)) ≤ (s0_0.length : Int) then (some (wrap64 (rd s0_0 s0_1), wrap64 (s0_1 + 1), IntKind.u64.wrap ((IntKind.u64.wrap ((IntKind.u64.wrap (s0_2 * 6364136223846793005)) + (IntKind.u64.wrap (wrap64 (rd s0_0 s0_1))))) + 1442695040888963407))) else (some (wrap64 (Go.bits .and .u64 ((IntKind.u64.wrap ((IntKind.u64.wrap ((IntKind.u64.wrap (s0_2 * 6364136223846793005)) + (IntKind.u64.wrap (wrap64 (rd s0_0 s0_1))))) + 1442695040888963407)) / 1099511627776) 255), wrap64 (s0_1 + 1), IntKind.u64.wrap ((IntKind.u64.wrap ((IntKind.u64.wrap (s0_2 * 6364136223846793005)) + (IntKind.u64.wrap (wrap64 (rd s0_0 s0_1))))) + 1442695040888963407)))) else (none)) else (if (wrap64 (s0_1 + 1)) ≤ (s0_0.length : Int) then (some (0, wrap64 (s0_1 + 1), IntKind.u64.wrap ((IntKind.u64.wrap ((IntKind.u64.wrap (s0_2 * 6364136223846793005)))) + 1442695040888963407))) else (some (wrap64 (Go.bits .and .u64 ((IntKind.u64.wrap ((IntKind.u64.wrap ((IntKind.u64.wrap (s0_2 * 6364136223846793005)))) + 1442695040888963407)) / 1099511627776) 255), wrap64 (s0_1 + 1), IntKind.u64.wrap ((IntKind.u64.wrap ((IntKind.u64.wrap (s0_2 * 6364136223846793005)))) + 1442695040888963407))))) = some (r1, r2, r3) := h
 clear h
 by_cases c2 : s0_1 < (s0_0.length : Int)
 rotate_left
 ·rw [if_neg c2] at H
  have c2b0 : decide (s0_1 < (s0_0.length : Int)) = false := decide_eq_false c2
  clear c2
  by_cases c7 : (wrap64 (s0_1 + 1)) ≤ (s0_0.length : Int)
  ·rw [if_pos c7] at H
   have c7b0 : decide ((wrap64 (s0_1 + 1)) ≤ (s0_0.length : Int)) = true := decide_eq_true c7
   clear c7
   simp only [Option.some.injEq, Prod.mk.injEq] at H
   obtain ⟨rfl, rfl, rfl⟩ := H
   obtain ⟨ASz8_0, cSz8_0, HGz8, hgz8, HSz8_0⟩ := HI0.out
   have hcz8_0 := cellS129_0 HGz8
   have hcz8_1 := cellS129_1 HGz8
   have hcz8_2 := cellS129_2 HGz8
   have hfz8_1 := blk_frozen HGz8 1
   have hfz8_2 := blk_frozen HGz8 2
   clear HGz8 hgz8
   go_enter Try.func368, Try.ntmps368
   go_wp2
   repeat (go_quiet (fail); try go_wp2)
   go_ret
   exact ⟨xr, xJ129_12_0 HI0.out, xB1 (IsS129.ge HI0.out) HB.out, xH0 HK.out⟩
  rw [if_neg c7] at H
  have c7b0 : decide ((wrap64 (s0_1 + 1)) ≤ (s0_0.length : Int)) = false := decide_eq_false c7
  clear c7
  simp only [Option.some.injEq, Prod.mk.injEq] at H
  obtain ⟨rfl, rfl, rfl⟩ := H
  obtain ⟨ASz9_0, cSz9_0, HGz9, hgz9, HSz9_0⟩ := HI0.out
  have hcz9_0 := cellS129_0 HGz9
  have hcz9_1 := cellS129_1 HGz9
  have hcz9_2 := cellS129_2 HGz9
  have hfz9_1 := blk_frozen HGz9 1
  have hfz9_2 := blk_frozen HGz9 2
  clear HGz9 hgz9
  go_enter Try.func368, Try.ntmps368
  go_wp2
  repeat (go_quiet (fail); try go_wp2)
  go_ret
  exact ⟨xr, xJ129_12_0 HI0.out, xB1 (IsS129.ge HI0.out) HB.out, xH0 HK.out⟩

 rw [if_pos c2] at H
 have c2b0 : decide (s0_1 < (s0_0.length : Int)) = true := decide_eq_true c2
 clear c2
 by_cases c3 : 0 ≤ s0_1
 rotate_left
 ·rw [if_neg c3] at H
  exact absurd H (by simp)
 rw [if_pos c3] at H
 have c3b0 : decide (0 ≤ s0_1) = true := decide_eq_true c3
 clear c3
 by_cases c4 : (wrap64 (s0_1 + 1)) ≤ (s0_0.length : Int)
 rotate_left
 ·rw [if_neg c4] at H
  have c4b0 : decide ((wrap64 (s0_1 + 1)) ≤ (s0_0.length : Int)) = false := decide_eq_false c4
  clear c4
  simp only [Option.some.injEq, Prod.mk.injEq] at H
  obtain ⟨rfl, rfl, rfl⟩ := H
  obtain ⟨ASz6_0, cSz6_0, HGz6, hgz6, HSz6_0⟩ := HI0.out
  have hcz6_0 := cellS129_0 HGz6
  have hcz6_1 := cellS129_1 HGz6
  have hcz6_2 := cellS129_2 HGz6
  have hfz6_1 := blk_frozen HGz6 1
  have hfz6_2 := blk_frozen HGz6 2
  clear HGz6 hgz6
  have p120 : 0 ≤ (s0_1 : Int) := of_decide_eq_true (by first | (with_reducible assumption) | assumption)
  have q120 : s0_1 < (s0_0.length : Int) := of_decide_eq_true (by first | (with_reducible assumption) | assumption)
  obtain ⟨ad120, e120, hx120_0⟩ := Kd.at_int HSz6_0 s0_1 p120 q120
  cases e120
  replace hx120_0 := pw_cell_below HB.out hx120_0
  replace p120 := eq_true p120
  replace q120 := eq_true q120
  go_enter Try.func368, Try.ntmps368
  go_wp2
  repeat (go_quiet (fail); try go_wp2)
  go_ret
  exact ⟨xr, xJ129_12_0 HI0.out, xB1 (IsS129.ge HI0.out) HB.out, xH0 HK.out⟩
 rw [if_pos c4] at H
 have c4b0 : decide ((wrap64 (s0_1 + 1)) ≤ (s0_0.length : Int)) = true := decide_eq_true c4
 clear c4
 simp only [Option.some.injEq, Prod.mk.injEq] at H
 obtain ⟨rfl, rfl, rfl⟩ := H
 obtain ⟨ASz5_0, cSz5_0, HGz5, hgz5, HSz5_0⟩ := HI0.out
 have hcz5_0 := cellS129_0 HGz5
 have hcz5_1 := cellS129_1 HGz5
 have hcz5_2 := cellS129_2 HGz5
 have hfz5_1 := blk_frozen HGz5 1
 have hfz5_2 := blk_frozen HGz5 2
 clear HGz5 hgz5
 have p120 : 0 ≤ (s0_1 : Int) := of_decide_eq_true (by first | (with_reducible assumption) | assumption)
 have q120 : s0_1 < (s0_0.length : Int) := of_decide_eq_true (by first | (with_reducible assumption) | assumption)
 obtain ⟨ad120, e120, hx120_0⟩ := Kd.at_int HSz5_0 s0_1 p120 q120
 cases e120
 replace hx120_0 := pw_cell_below HB.out hx120_0
 replace p120 := eq_true p120
 replace q120 := eq_true q120
 go_enter Try.func368, Try.ntmps368
 go_wp2
 repeat (go_quiet (fail); try go_wp2)
 go_ret
 exact ⟨xr, xJ129_12_0 HI0.out, xB1 (IsS129.ge HI0.out) HB.out, xH0 HK.out⟩
/-! ### spec_l1Cur_pick: function 229 -/
def spec_l1Cur_pick.f (s0_0 : List Int) (s0_1 : Int) (s0_2 : Int) (a1 : Int) : Option (Int × Int × Int) := if a1 ≤ 1 then (some (0, s0_1, s0_2)) else ((spec_l1Cur_next.f s0_0 s0_1 s0_2).bind fun bt121 => (if a1 > 200 then ((spec_l1Cur_next.f s0_0 bt121.2.1 bt121.2.2).bind fun bt124 => (if a1 = 0 then (none) else (some (Int.tmod (wrap64 ((wrap64 (bt121.1 * 256)) + bt124.1)) a1, bt124.2.1, bt124.2.2)))) else (if a1 = 0 then (none) else (some (Int.tmod bt121.1 a1, bt121.2.1, bt121.2.2)))))
set_option maxHeartbeats 200000000 in
set_option maxRecDepth 100000 in
theorem spec_l1Cur_pick.calls (g : Nat) (s0_0 : List Int) (s0_1 : Int) (s0_2 : Int) (a1 : Int) (r1 : Int) (r2 : Int) (r3 : Int) (w0 w : World) (hI : IsS129 w0 w g s0_0 s0_1 s0_2) (hB : Below w0.heap.size w0 w) (h : spec_l1Cur_pick.f s0_0 s0_1 s0_2 a1 = some (r1, r2, r3)) :
  Calls Try.prog 229 #[.pointer (some ⟨g, 0, none⟩), .int .i64 a1] w fun e w' => e = .returned (.int .i64 r1) ∧ IsS129 w0 w' g s0_0 r2 r3 ∧ Below w0.heap.size w0 w' ∧ KeepBut w w' g none := by
 have HI0 := xA hI
 have HK := xA (KeepBut.refl w g none)
 have HL := xA hB.size
 clear hI
 have HW0 := xA hB.size
 have HB := xA hB
 clear hB
 have H : (if a1 ≤ 1 then (some (0, s0_1, s0_2)) else ((spec_l1Cur_next.f s0_0 s0_1 s0_2).bind fun bt121 => (if a1 > 200 then ((spec_l1Cur_next.f s0_0 bt121.2.1 bt121.2.2).bind fun bt124 => (if a1 = 0 then (none) else (some (Int.tmod (wrap64 ((wrap64 (bt121.1 * 256)) + bt124.1)) a1, bt124.2.1, bt124.2.2)))) else (if a1 = 0 then (none) else (some (Int.tmod bt121.1 a1, bt121.2.1, bt121.2.2)))))) = some (r1, r2, r3) := h
 clear h
 by_cases c3 : a1 ≤ 1
 ·rw [if_pos c3] at H
  have c3b0 : decide (a1 ≤ 1) = true := decide_eq_true c3
  clear c3
  simp only [Option.some.injEq, Prod.mk.injEq] at H
  obtain ⟨rfl, rfl, rfl⟩ := H
  go_enter Try.func229, Try.ntmps229
  go_wp2
  go_ret
  exact ⟨xr, xJ129_12_0 HI0.out, xB1 (IsS129.ge HI0.out) HB.out, xH0 HK.out⟩
 rw [if_neg c3] at H
 have c3b0 : decide (a1 ≤ 1) = false := decide_eq_false c3
 clear c3
 replace H := Option.bind_eq_some_iff.mp H
 obtain ⟨⟨t121, t122, t123⟩, A40, H⟩ := H
 (try dsimp only at H)
 have A4 := xA A40
 clear A40
 by_cases c5 : a1 > 200
 rotate_left
 ·rw [if_neg c5] at H
  have c5b0 : decide (200 < a1) = false := decide_eq_false c5
  clear c5
  by_cases c10 : a1 = 0
  ·rw [if_pos c10] at H
   exact absurd H (by simp)
  rw [if_neg c10] at H
  have c10b0 : (a1 == 0) = false := beq_eq_false_iff_ne.mpr c10
  have c10b1 : (a1 != 0) = true := bne_iff_ne.mpr c10
  simp only [Option.some.injEq, Prod.mk.injEq] at H
  obtain ⟨rfl, rfl, rfl⟩ := H
  go_enter Try.func229, Try.ntmps229
  go_wp2_with (first | (refine xG (some 9) Try.func368 #[.pointer (some ⟨g, 0, none⟩)] ?_; (with_reducible refine (spec_l1Cur_next.calls g s0_0 s0_1 s0_2 t121 t122 t123 w0 _ ?side1 ?side2 A4.out).mono ?_); (case side1 => exact xJ129_12_0 HI0.out); (case side2 => exact xB1 (IsS129.ge HI0.out) HB.out); rintro e w11 ⟨rfl, hi, hb, hk⟩; refine ⟨_, rfl, ?_⟩; replace HK := xA (KeepBut.trans (xH0 HK.out) hk (.inl rfl)); replace HB := xA (hb); replace HI0 := xA (hi); (try clear hb hk hi)))
  go_ret
  exact ⟨xr, xJ129_12_0 HI0.out, xB1 (IsS129.ge HI0.out) HB.out, xH0 HK.out⟩

 rw [if_pos c5] at H
 have c5b0 : decide (200 < a1) = true := decide_eq_true c5
 clear c5
 replace H := Option.bind_eq_some_iff.mp H
 obtain ⟨⟨t124, t125, t126⟩, A60, H⟩ := H
 (try dsimp only at H)
 have A6 := xA A60
 clear A60
 by_cases c7 : a1 = 0
 ·rw [if_pos c7] at H
  exact absurd H (by simp)
 rw [if_neg c7] at H
 have c7b0 : (a1 == 0) = false := beq_eq_false_iff_ne.mpr c7
 have c7b1 : (a1 != 0) = true := bne_iff_ne.mpr c7
 simp only [Option.some.injEq, Prod.mk.injEq] at H
 obtain ⟨rfl, rfl, rfl⟩ := H
 go_enter Try.func229, Try.ntmps229
 go_wp2_with (first | (refine xq rfl ?_; first | (refine xG (some 9) Try.func368 #[.pointer (some ⟨g, 0, none⟩)] ?_; (with_reducible refine (spec_l1Cur_next.calls g s0_0 s0_1 s0_2 t121 t122 t123 w0 _ ?side1 ?side2 A4.out).mono ?_); (case side1 => exact xJ129_12_0 HI0.out); (case side2 => exact xB1 (IsS129.ge HI0.out) HB.out); rintro e w8 ⟨rfl, hi, hb, hk⟩; refine ⟨_, rfl, ?_⟩; replace HK := xA (KeepBut.trans (xH0 HK.out) hk (.inl rfl)); replace HB := xA (hb); replace HI0 := xA (hi); (try clear hb hk hi)) | (refine xG (some 15) Try.func368 #[.pointer (some ⟨g, 0, none⟩)] ?_; (with_reducible refine (spec_l1Cur_next.calls g s0_0 t122 t123 t124 t125 t126 w0 _ ?side1 ?side2 A6.out).mono ?_); (case side1 => exact xJ129_12_0 HI0.out); (case side2 => exact xB1 (IsS129.ge HI0.out) HB.out); rintro e w9 ⟨rfl, hi, hb, hk⟩; refine ⟨_, rfl, ?_⟩; replace HK := xA (KeepBut.trans (xH0 HK.out) hk (.inl rfl)); replace HB := xA (hb); replace HI0 := xA (hi); (try clear hb hk hi))))
 go_ret
 exact ⟨xr, xJ129_12_0 HI0.out, xB1 (IsS129.ge HI0.out) HB.out, xH0 HK.out⟩
/-! ### spec_l1Cur_one: function 227 -/
def spec_l1Cur_one.f (s0_0 : List Int) (s0_1 : Int) (s0_2 : Int) (a1 : Int) : Option (Bool × Int × Int) := (spec_l1Cur_pick.f s0_0 s0_1 s0_2 a1).bind fun bt127 => (some ((bt127.1 == 0), bt127.2.1, bt127.2.2))
set_option maxHeartbeats 200000000 in
set_option maxRecDepth 100000 in
theorem spec_l1Cur_one.calls (g : Nat) (s0_0 : List Int) (s0_1 : Int) (s0_2 : Int) (a1 : Int) (r1 : Bool) (r2 : Int) (r3 : Int) (w0 w : World) (hI : IsS129 w0 w g s0_0 s0_1 s0_2) (hB : Below w0.heap.size w0 w) (h : spec_l1Cur_one.f s0_0 s0_1 s0_2 a1 = some (r1, r2, r3)) :
  Calls Try.prog 227 #[.pointer (some ⟨g, 0, none⟩), .int .i64 a1] w fun e w' => e = .returned (.bool r1) ∧ IsS129 w0 w' g s0_0 r2 r3 ∧ Below w0.heap.size w0 w' ∧ KeepBut w w' g none := by
 have HI0 := xA hI
 have HK := xA (KeepBut.refl w g none)
 have HL := xA hB.size
 clear hI
 have HW0 := xA hB.size
 have HB := xA hB
 clear hB
 have H : ((spec_l1Cur_pick.f s0_0 s0_1 s0_2 a1).bind fun bt127 => (some ((bt127.1 == 0), bt127.2.1, bt127.2.2))) = some (r1, r2, r3) := h
 clear h
 replace H := Option.bind_eq_some_iff.mp H
 obtain ⟨⟨t127, t128, t129⟩, A30, H⟩ := H
 (try dsimp only at H)
 have A3 := xA A30
 clear A30
 simp only [Option.some.injEq, Prod.mk.injEq] at H
 obtain ⟨rfl, rfl, rfl⟩ := H
 go_enter Try.func227, Try.ntmps227
 go_wp2_with (first | (refine xG (some 7) Try.func229 #[.pointer (some ⟨g, 0, none⟩), .int .i64 a1] ?_; (with_reducible refine (spec_l1Cur_pick.calls g s0_0 s0_1 s0_2 a1 t127 t128 t129 w0 _ ?side1 ?side2 A3.out).mono ?_); (case side1 => exact xJ129_12_0 HI0.out); (case side2 => exact xB1 (IsS129.ge HI0.out) HB.out); rintro e w4 ⟨rfl, hi, hb, hk⟩; refine ⟨_, rfl, ?_⟩; replace HK := xA (KeepBut.trans (xH0 HK.out) hk (.inl rfl)); replace HB := xA (hb); replace HI0 := xA (hi); (try clear hb hk hi)))
 go_ret
 exact ⟨xr, xJ129_12_0 HI0.out, xB1 (IsS129.ge HI0.out) HB.out, xH0 HK.out⟩

/-! ### spec_l1Cur_among: function 228 -/
def spec_l1Cur_among.f (s0_0 : List Int) (s0_1 : Int) (s0_2 : Int) (l1 : List Int) : Option (Int × Int × Int) := (spec_l1Cur_pick.f s0_0 s0_1 s0_2 (l1.length : Int)).bind fun bt130 => (if 0 ≤ bt130.1 then (if bt130.1 < (l1.length : Int) then (some (rd l1 bt130.1, bt130.2.1, bt130.2.2)) else (none)) else (none))
set_option maxHeartbeats 200000000 in
set_option maxRecDepth 100000 in
theorem spec_l1Cur_among.calls (g : Nat) (s0_0 : List Int) (s0_1 : Int) (s0_2 : Int) (A1 : Option Addr) (c1 : Nat) (l1 : List Int) (r1 : Int) (r2 : Int) (r3 : Int) (w0 w : World) (hI : IsS129 w0 w g s0_0 s0_1 s0_2) (hB : Below w0.heap.size w0 w) (hr1 : Kd.C (Kd.int .i64) w A1 l1.length l1) (hc1 : l1.length ≤ c1) (hf1 : ∀ ad, A1 = some ad → 0 < l1.length → ad.block ≠ g) (h : spec_l1Cur_among.f s0_0 s0_1 s0_2 l1 = some (r1, r2, r3)) :
  Calls Try.prog 228 #[.pointer (some ⟨g, 0, none⟩), .slice A1 l1.length c1] w fun e w' => e = .returned (.int .i64 r1) ∧ IsS129 w0 w' g s0_0 r2 r3 ∧ Below w0.heap.size w0 w' ∧ KeepBut w w' g none := by
 have HR1 := xA hr1
 have HC1 := xA hc1
 clear hr1 hc1
 have HI0 := xA hI
 have HK := xA (KeepBut.refl w g none)
 have HL := xA hB.size
 clear hI
 have HW0 := xA hB.size
 have HB := xA hB
 clear hB
 have H : ((spec_l1Cur_pick.f s0_0 s0_1 s0_2 (l1.length : Int)).bind fun bt130 => (if 0 ≤ bt130.1 then (if bt130.1 < (l1.length : Int) then (some (rd l1 bt130.1, bt130.2.1, bt130.2.2)) else (none)) else (none))) = some (r1, r2, r3) := h
 clear h
 replace H := Option.bind_eq_some_iff.mp H
 obtain ⟨⟨t130, t131, t132⟩, A30, H⟩ := H
 (try dsimp only at H)
 have A3 := xA A30
 clear A30
 by_cases c4 : 0 ≤ t130
 rotate_left
 ·rw [if_neg c4] at H
  exact absurd H (by simp)

 rw [if_pos c4] at H
 have c4b0 : decide (0 ≤ t130) = true := decide_eq_true c4
 clear c4
 by_cases c5 : t130 < (l1.length : Int)
 rotate_left
 ·rw [if_neg c5] at H
  exact absurd H (by simp)
 rw [if_pos c5] at H
 have c5b0 : decide (t130 < (l1.length : Int)) = true := decide_eq_true c5
 clear c5
 simp only [Option.some.injEq, Prod.mk.injEq] at H
 obtain ⟨rfl, rfl, rfl⟩ := H
 go_enter Try.func228, Try.ntmps228
 go_wp2_with (first | (refine xG (some 9) Try.func229 #[.pointer (some ⟨g, 0, none⟩), .int .i64 (l1.length : Int)] ?_; (with_reducible refine (spec_l1Cur_pick.calls g s0_0 s0_1 s0_2 (l1.length : Int) t130 t131 t132 w0 _ ?side1 ?side2 A3.out).mono ?_); (case side1 => exact xJ129_12_0 HI0.out); (case side2 => exact xB1 (IsS129.ge HI0.out) HB.out); rintro e w6 ⟨rfl, hi, hb, hk⟩; refine ⟨_, rfl, ?_⟩; replace HK := xA (KeepBut.trans (xH0 HK.out) hk (.inl rfl)); replace HB := xA (hb); replace HI0 := xA (hi); (try clear hb hk hi); have p133 : 0 ≤ (t130 : Int) := of_decide_eq_true (by first | (with_reducible assumption) | assumption); have q133 : t130 < (l1.length : Int) := of_decide_eq_true (by first | (with_reducible assumption) | assumption); obtain ⟨ad133, e133, hx133_0⟩ := Kd.at_int HR1.out t130 p133 q133; cases e133; replace hx133_0 := keep_cell HK.out hx133_0 (by first | (rw [add_block]; exact hf1 _ rfl (by omega)) | exact hf1 _ rfl (by omega) | exact hf1 ad133 rfl (by omega)); replace p133 := eq_true p133; replace q133 := eq_true q133))
 go_ret
 exact ⟨xr, xJ129_12_0 HI0.out, xB1 (IsS129.ge HI0.out) HB.out, xH0 HK.out⟩
/-! ### spec_l1Cur_signal: function 214 -/
def spec_l1Cur_signal.l0 : Nat → Int → List Int → Int → List Int → Int → Int → Option (List Int × Int × Int)
 | 0, _, _, _, _, _, _ => none
 | k + 1, x2, x7, x8, x1000, x1001, x1002 => if x8 > 0 then ((spec_l1Cur_one.f x1000 x1001 x1002 4).bind fun bt137 => (if bt137.1 = true then (if x7.length < 17592186044416 then (spec_l1Cur_signal.l0 k x2 (x7 ++ [0]) (wrap64 (x8 - 1)) x1000 bt137.2.1 bt137.2.2) else (none)) else ((spec_l1Cur_pick.f x1000 bt137.2.1 bt137.2.2 (wrap64 ((wrap64 (2 * x2)) + 1))).bind fun bt143 => (if x7.length < 17592186044416 then (spec_l1Cur_signal.l0 k x2 (x7 ++ [wrap64 (bt143.1 - x2)]) (wrap64 (x8 - 1)) x1000 bt143.2.1 bt143.2.2) else (none))))) else ((spec_l1Cur_pick.f x1000 x1001 x1002 16).bind fun bt149 => (if bt149.1 = 0 then ((spec_l1Cur_among.f x1000 bt149.2.1 bt149.2.2 (([100000, (-100000), 100001, 4611686018427387904] : List Int))).bind fun bt155 => (if x7.length < 17592186044416 then (some ((x7 ++ [bt155.1]), bt155.2.1, bt155.2.2)) else (none))) else (if bt149.1 = 1 then ((spec_l1Cur_pick.f x1000 bt149.2.1 bt149.2.2 2).bind fun bt161 => (if 0 ≤ (wrap64 (64 + bt161.1)) then (if (wrap64 (64 + bt161.1) : Int).toNat ≤ 35184372088832 then (some ((List.replicate (wrap64 (64 + bt161.1) : Int).toNat 0), bt161.2.1, bt161.2.2)) else (none)) else (none))) else (some (x7, bt149.2.1, bt149.2.2)))))
def spec_l1Cur_signal.f (k : Nat) (s0_0 : List Int) (s0_1 : Int) (s0_2 : Int) (a1 : Int) (a2 : Int) : Option (List Int × Int × Int) := (spec_l1Cur_pick.f s0_0 s0_1 s0_2 (wrap64 (a1 + 1))).bind fun bt134 => (spec_l1Cur_signal.l0 k a2 ([] : List Int) bt134.1 s0_0 bt134.2.1 bt134.2.2)
theorem spec_l1Cur_signal.mono_l : ∀ k, (∀ y0 y1 y2 y3 y4 y5, LeO (spec_l1Cur_signal.l0 k y0 y1 y2 y3 y4 y5) (spec_l1Cur_signal.l0 (k + 1) y0 y1 y2 y3 y4 y5))
 | 0 => fun _ _ _ _ _ _ r h => by simp [spec_l1Cur_signal.l0] at h
 | k + 1 => by
  have ih0 := spec_l1Cur_signal.mono_l k
  intros
  unfold spec_l1Cur_signal.l0
  exact xM
theorem spec_l1Cur_signal.mono : ∀ a0 a1 a2 a3 a4 k, LeO (spec_l1Cur_signal.f k a0 a1 a2 a3 a4) (spec_l1Cur_signal.f (k + 1) a0 a1 a2 a3 a4) := by
 intro a0 a1 a2 a3 a4 k
 have ih0 := spec_l1Cur_signal.mono_l k
 unfold spec_l1Cur_signal.f
 exact xM
set_option maxHeartbeats 200000000 in
set_option maxRecDepth 100000 in
theorem spec_l1Cur_signal.calls (k : Nat) (g : Nat) (s0_0 : List Int) (s0_1 : Int) (s0_2 : Int) (a1 : Int) (a2 : Int) (r1 : List Int) (r2 : Int) (r3 : Int) (w0 w : World) (hI : IsS129 w0 w g s0_0 s0_1 s0_2) (hB : Below w0.heap.size w0 w) (h : spec_l1Cur_signal.f k s0_0 s0_1 s0_2 a1 a2 = some (r1, r2, r3)) :
  Calls Try.prog 214 #[.pointer (some ⟨g, 0, none⟩), .int .i64 a1, .int .i64 a2] w fun e w' => ∃ v0_ : Value, e = .returned (v0_) ∧ Kd.R (Kd.int .i64) 3 w' w.heap.size (fun _ => True) v0_ r1 ∧ IsS129 w0 w' g s0_0 r2 r3 ∧ Below w0.heap.size w0 w' ∧ KeepBut w w' g none := by
 have HI0 := xA hI
 have HK := xA (KeepBut.refl w g none)
 have HL := xA hB.size
 clear hI
 have HW0 := xA hB.size
 have HB := xA hB
 clear hB
 have H : ((spec_l1Cur_pick.f s0_0 s0_1 s0_2 (wrap64 (a1 + 1))).bind fun bt134 => (spec_l1Cur_signal.l0 k a2 ([] : List Int) bt134.1 s0_0 bt134.2.1 bt134.2.2)) = some (r1, r2, r3) := h
 clear h
 replace H := Option.bind_eq_some_iff.mp H
 obtain ⟨⟨t134, t135, t136⟩, A40, H⟩ := H
 (try dsimp only at H)
 have A4 := xA A40
 clear A40
 have H' := xA H
 clear H
 go_enter Try.func214, Try.ntmps214
 go_wp2_with (first | (refine xG (some 13) Try.func229 #[.pointer (some ⟨g, 0, none⟩), .int .i64 (wrap64 (a1 + 1))] ?_; (with_reducible refine (spec_l1Cur_pick.calls g s0_0 s0_1 s0_2 (wrap64 (a1 + 1)) t134 t135 t136 w0 _ ?side1 ?side2 A4.out).mono ?_); (case side1 => exact xJ129_12_0 HI0.out); (case side2 => exact xB1 (IsS129.ge HI0.out) HB.out); rintro e w5 ⟨rfl, hi, hb, hk⟩; refine ⟨_, rfl, ?_⟩; replace HK := xA (KeepBut.trans (xH0 HK.out) hk (.inl rfl)); replace HB := xA (hb); replace HI0 := xA (hi); (try clear hb hk hi)))
 go_loopg [7, 8] k (fun kq v7 v8 w' => ∃ (x7_1 : List Int) (x8_1 : Int) (x1001_1 : Int) (x1002_1 : Int), v8 = .int .i64 x8_1 ∧ Aside0 (spec_l1Cur_signal.l0 kq a2 x7_1 x8_1 s0_0 x1001_1 x1002_1 = some (r1, r2, r3)) ∧ Aside0 (kq ≤ k) ∧ Aside0 (Kd.R (Kd.int .i64) 3 w' w.heap.size (fun _ => True) v7 x7_1) ∧ Aside0 (IsS129 w0 w' g s0_0 x1001_1 x1002_1) ∧ Aside0 (KeepBut w w' g none) ∧ Aside0 (Below w0.heap.size w0 w'))
 case atStart => exact ⟨(([] : List Int)), (t134), (t135), (t136), xs, H', ⟨Nat.le_refl _⟩, ⟨by first | exact Kd.R_nil _ _ _ _ _ | exact Kd.N_nil _ _ _ _ _ | exact Kd.V_nil _ _ _ _ _ | exact Kd.Q_nil _ _ _ _ _ | exact Kd.S_nil _ _ _ _ _⟩, ⟨xJ129_12_0 HI0.out⟩, ⟨xH0 HK.out⟩, ⟨xB1 (IsS129.ge HI0.out) HB.out⟩⟩
 case round =>
  clear H'
  obtain ⟨x7_1, x8_1, x1001_1, x1002_1, rfl, HA, HK1, HO_7, HI0, HK, HB⟩ := hrel
  cases gk with
  | zero => exact absurd HA.out (by simp [spec_l1Cur_signal.l0])
  | succ k1 =>
   have H := HA.out
   clear HA
   simp only [spec_l1Cur_signal.l0] at H
   by_cases c6 : x8_1 > 0
   ·rw [if_pos c6] at H
    have c6b0 : decide (0 < x8_1) = true := decide_eq_true c6
    clear c6
    replace H := Option.bind_eq_some_iff.mp H
    obtain ⟨⟨t137, t138, t139⟩, A70, H⟩ := H
    (try dsimp only at H)
    have A7 := xA A70
    clear A70
    by_cases c8 : t137 = true
    ·subst c8
     rw [if_pos rfl] at H
     by_cases c9 : x7_1.length < 17592186044416
     rotate_left
     ·rw [if_neg c9] at H
      exact absurd H (by simp)
     rw [if_pos c9] at H
     have LMc9 := xA c9
     clear c9
     obtain ⟨y140, hy140⟩ : ∃ y_ : List Int, y_ = (x7_1 ++ [0]) := ⟨_, rfl⟩
     replace H : (spec_l1Cur_signal.l0 k1 a2 y140 (wrap64 (x8_1 - 1)) s0_0 t138 t139) = some (r1, r2, r3) := by first | (rw [hy140]; with_reducible exact H) | (have H2_ := (Option.bind_some _ _).symm.trans H; rw [hy140]; with_reducible exact H2_) | (have H2_ := (Option.bind_some _ _).symm.trans H; with_reducible exact H2_) | with_reducible exact H | (rw [hy140]; exact H) | exact H
     have Ny140 := xA hy140
     clear hy140
     have H' := xA H
     clear H
     go_wp2_with (first | (refine xG (some 19) Try.func227 #[.pointer (some ⟨g, 0, none⟩), .int .i64 4] ?_; (with_reducible refine (spec_l1Cur_one.calls g s0_0 x1001_1 x1002_1 4 true t138 t139 w0 _ ?side1 ?side2 A7.out).mono ?_); (case side1 => exact xJ129_12_0 HI0.out); (case side2 => exact xB1 (IsS129.ge HI0.out) HB.out); rintro e w10 ⟨rfl, hi, hb, hk⟩; refine ⟨_, rfl, ?_⟩; replace HO_7 := xA (Kd.R_mono (Kd.R_keep (IsS129.apart (show IsS129 w0 _ g s0_0 x1001_1 x1002_1 from xJ129_12_0 HI0.out) (xR HO_7.out) (by decide)) hk (fun _ h => h.2)) (fun _ h => h.1)); replace HK := xA (KeepBut.trans (xH0 HK.out) hk (.inl rfl)); replace HB := xA (hb); replace HI0 := xA (hi); (try clear hb hk hi)) | ((with_reducible refine gate_builtin (b := .append) (xs := #[.tmp 28, .tmp 30]) rfl ?_); at_builtin; refine Kd.R_append (Kd.int .i64) w.heap.size rfl (.tmp 28) (.tmp 30) 24 3 (.int .i64 0) 8 rfl Try.underlying24 info3 rfl (by decide) (by omega) u7 x7_1 0 [.int .i64 0] (fun _ => True) (fun _ => False) rfl rfl ?aP (fun _ hk => hk.elim) ?aF ?aO (Below.refl _ _) ?aS ?aL ?_; (case aP => exact rfl); (case aF => exact (fun _ _ => trivial)); (case aO => exact (xR HO_7.out)); (case aS => exact (keep_size (w := w) (g := g) (row := none) (xH0 HK.out))); (case aL => have := LMc9.out; omega); intro v141 w11 ho hb hg hat; rw [← Ny140.out] at ho; replace HB := xA (below_weaken (xB1 (IsS129.ge HI0.out) HB.out) HL.out hb); replace HI0 := xA (IsS129.grown (xJ129_12_0 HI0.out) hg (IsS129.own_ne HI0.out HO_7.out (by decide))); replace HK := xA (KeepBut.trans (xH0 HK.out) (KeepBut.of_grown hg g) (Kd.R_base2 HO_7.out)); have HO142 := xA (ho); clear HO_7; clear ho hb hg hat))
     go_roundg k1
     case measure => have := HK1.out; omega
     case rel => exact ⟨(y140), (wrap64 (x8_1 - 1)), (t138), (t139), xs, H', ⟨by have := HK1.out; omega⟩, ⟨xR HO142.out⟩, ⟨xJ129_12_0 HI0.out⟩, ⟨xH0 HK.out⟩, ⟨xB1 (IsS129.ge HI0.out) HB.out⟩⟩
    replace c8 := Bool.eq_false_iff.mpr c8
    subst c8
    rw [if_neg (show ¬ (false = true) by decide)] at H
    replace H := Option.bind_eq_some_iff.mp H
    obtain ⟨⟨t143, t144, t145⟩, A120, H⟩ := H
    (try dsimp only at H)
    have A12 := xA A120
    clear A120
    by_cases c13 : x7_1.length < 17592186044416
    rotate_left
    ·rw [if_neg c13] at H
     exact absurd H (by simp)
    rw [if_pos c13] at H
    have LMc13 := xA c13
    clear c13
    obtain ⟨y146, hy146⟩ : ∃ y_ : List Int, y_ = (x7_1 ++ [wrap64 (t143 - a2)]) := ⟨_, rfl⟩
    replace H : (spec_l1Cur_signal.l0 k1 a2 y146 (wrap64 (x8_1 - 1)) s0_0 t144 t145) = some (r1, r2, r3) := by first | (rw [hy146]; with_reducible exact H) | (have H2_ := (Option.bind_some _ _).symm.trans H; rw [hy146]; with_reducible exact H2_) | (have H2_ := (Option.bind_some _ _).symm.trans H; with_reducible exact H2_) | with_reducible exact H | (rw [hy146]; exact H) | exact H
    have Ny146 := xA hy146
    clear hy146
    have H' := xA H
    clear H
    go_wp2_with (first | (refine xq rfl ?_; first | (refine xG (some 19) Try.func227 #[.pointer (some ⟨g, 0, none⟩), .int .i64 4] ?_; (with_reducible refine (spec_l1Cur_one.calls g s0_0 x1001_1 x1002_1 4 false t138 t139 w0 _ ?side1 ?side2 A7.out).mono ?_); (case side1 => exact xJ129_12_0 HI0.out); (case side2 => exact xB1 (IsS129.ge HI0.out) HB.out); rintro e w14 ⟨rfl, hi, hb, hk⟩; refine ⟨_, rfl, ?_⟩; replace HO_7 := xA (Kd.R_mono (Kd.R_keep (IsS129.apart (show IsS129 w0 _ g s0_0 x1001_1 x1002_1 from xJ129_12_0 HI0.out) (xR HO_7.out) (by decide)) hk (fun _ h => h.2)) (fun _ h => h.1)); replace HK := xA (KeepBut.trans (xH0 HK.out) hk (.inl rfl)); replace HB := xA (hb); replace HI0 := xA (hi); (try clear hb hk hi)) | (refine xG (some 25) Try.func229 #[.pointer (some ⟨g, 0, none⟩), .int .i64 (wrap64 ((wrap64 (2 * a2)) + 1))] ?_; (with_reducible refine (spec_l1Cur_pick.calls g s0_0 t138 t139 (wrap64 ((wrap64 (2 * a2)) + 1)) t143 t144 t145 w0 _ ?side1 ?side2 A12.out).mono ?_); (case side1 => exact xJ129_12_0 HI0.out); (case side2 => exact xB1 (IsS129.ge HI0.out) HB.out); rintro e w15 ⟨rfl, hi, hb, hk⟩; refine ⟨_, rfl, ?_⟩; replace HO_7 := xA (Kd.R_mono (Kd.R_keep (IsS129.apart (show IsS129 w0 _ g s0_0 t138 t139 from xJ129_12_0 HI0.out) (xR HO_7.out) (by decide)) hk (fun _ h => h.2)) (fun _ h => h.1)); replace HK := xA (KeepBut.trans (xH0 HK.out) hk (.inl rfl)); replace HB := xA (hb); replace HI0 := xA (hi); (try clear hb hk hi))) | ((with_reducible refine gate_builtin (b := .append) (xs := #[.tmp 28, .tmp 30]) rfl ?_); at_builtin; refine Kd.R_append (Kd.int .i64) w.heap.size rfl (.tmp 28) (.tmp 30) 24 3 (.int .i64 0) 8 rfl Try.underlying24 info3 rfl (by decide) (by omega) u7 x7_1 (wrap64 (t143 - a2)) [.int .i64 (wrap64 (t143 - a2))] (fun _ => True) (fun _ => False) rfl rfl ?aP (fun _ hk => hk.elim) ?aF ?aO (Below.refl _ _) ?aS ?aL ?_; (case aP => exact rfl); (case aF => exact (fun _ _ => trivial)); (case aO => exact (xR HO_7.out)); (case aS => exact (keep_size (w := w) (g := g) (row := none) (xH0 HK.out))); (case aL => have := LMc13.out; omega); intro v147 w16 ho hb hg hat; rw [← Ny146.out] at ho; replace HB := xA (below_weaken (xB1 (IsS129.ge HI0.out) HB.out) HL.out hb); replace HI0 := xA (IsS129.grown (xJ129_12_0 HI0.out) hg (IsS129.own_ne HI0.out HO_7.out (by decide))); replace HK := xA (KeepBut.trans (xH0 HK.out) (KeepBut.of_grown hg g) (Kd.R_base2 HO_7.out)); have HO148 := xA (ho); clear HO_7; clear ho hb hg hat))
    go_roundg k1
    case measure => have := HK1.out; omega
    case rel => exact ⟨(y146), (wrap64 (x8_1 - 1)), (t144), (t145), xs, H', ⟨by have := HK1.out; omega⟩, ⟨xR HO148.out⟩, ⟨xJ129_12_0 HI0.out⟩, ⟨xH0 HK.out⟩, ⟨xB1 (IsS129.ge HI0.out) HB.out⟩⟩
   rw [if_neg c6] at H
   have c6b0 : decide (0 < x8_1) = false := decide_eq_false c6
   clear c6
   replace H := Option.bind_eq_some_iff.mp H
   obtain ⟨⟨t149, t150, t151⟩, A170, H⟩ := H
   (try dsimp only at H)
   have A17 := xA A170
   clear A170
   by_cases c18 : t149 = 0
   ·rw [if_pos c18] at H
    have c18b0 : (t149 == 0) = true := beq_iff_eq.mpr c18
    have c18b1 : (t149 != 0) = false := bne_eq_false_iff_eq.mpr c18
    clear c18
    obtain ⟨y152, hy152⟩ : ∃ y_ : List Int, y_ = (([100000, (-100000), 100001, 4611686018427387904] : List Int)) := ⟨_, rfl⟩
    replace H : ((spec_l1Cur_among.f s0_0 t150 t151 y152).bind fun bt155 => (if x7_1.length < 17592186044416 then (some ((x7_1 ++ [bt155.1]), bt155.2.1, bt155.2.2)) else (none))) = some (r1, r2, r3) := by first | (rw [hy152]; with_reducible exact H) | (have H2_ := (Option.bind_some _ _).symm.trans H; rw [hy152]; with_reducible exact H2_) | (have H2_ := (Option.bind_some _ _).symm.trans H; with_reducible exact H2_) | with_reducible exact H | (rw [hy152]; exact H) | exact H
    have Ny152 := xA hy152
    clear hy152
    replace H := Option.bind_eq_some_iff.mp H
    obtain ⟨⟨t155, t156, t157⟩, A190, H⟩ := H
    (try dsimp only at H)
    have A19 := xA A190
    clear A190
    by_cases c20 : x7_1.length < 17592186044416
    rotate_left
    ·rw [if_neg c20] at H
     exact absurd H (by simp)
    rw [if_pos c20] at H
    have LMc20 := xA c20
    clear c20
    obtain ⟨y158, hy158⟩ : ∃ y_ : List Int, y_ = (x7_1 ++ [t155]) := ⟨_, rfl⟩
    replace H : (some (y158, t156, t157)) = some (r1, r2, r3) := by first | (rw [hy158]; with_reducible exact H) | (have H2_ := (Option.bind_some _ _).symm.trans H; rw [hy158]; with_reducible exact H2_) | (have H2_ := (Option.bind_some _ _).symm.trans H; with_reducible exact H2_) | with_reducible exact H | (rw [hy158]; exact H) | exact H
    have Ny158 := xA hy158
    clear hy158
    simp only [Option.some.injEq, Prod.mk.injEq] at H
    obtain ⟨rfl, rfl, rfl⟩ := H
    go_wp2_with (first | (refine xq rfl ?_; first | (refine xG (some 33) Try.func229 #[.pointer (some ⟨g, 0, none⟩), .int .i64 16] ?_; (with_reducible refine (spec_l1Cur_pick.calls g s0_0 x1001_1 x1002_1 16 t149 t150 t151 w0 _ ?side1 ?side2 A17.out).mono ?_); (case side1 => exact xJ129_12_0 HI0.out); (case side2 => exact xB1 (IsS129.ge HI0.out) HB.out); rintro e w21 ⟨rfl, hi, hb, hk⟩; refine ⟨_, rfl, ?_⟩; replace HO_7 := xA (Kd.R_mono (Kd.R_keep (IsS129.apart (show IsS129 w0 _ g s0_0 x1001_1 x1002_1 from xJ129_12_0 HI0.out) (xR HO_7.out) (by decide)) hk (fun _ h => h.2)) (fun _ h => h.1)); replace HK := xA (KeepBut.trans (xH0 HK.out) hk (.inl rfl)); replace HB := xA (hb); replace HI0 := xA (hi); (try clear hb hk hi)) | (refine xG (some 39) Try.func228 #[.pointer (some ⟨g, 0, none⟩), .slice Ao24 y152.length co24] ?_; (with_reducible refine (spec_l1Cur_among.calls g s0_0 t150 t151 _ _ y152 t155 t156 t157 w0 _ ?side1 ?side2 ?side3 ?side4 ?side5 A19.out).mono ?_); (case side1 => exact xJ129_12_0 HI0.out); (case side2 => exact xB1 (IsS129.ge HI0.out) HB.out); (case side3 => exact xC ((Kd.R_reads' HO154.out).2.2)); (case side4 => exact (Kd.R_reads' HO154.out).2.1); (case side5 => exact far_slice (IsS129.own_ne HI0.out HO154.out (by decide))); rintro e w25 ⟨rfl, hi, hb, hk⟩; refine ⟨_, rfl, ?_⟩; replace HO_7 := xA (Kd.R_mono (Kd.R_keep (IsS129.apart (show IsS129 w0 _ g s0_0 t150 t151 from xJ129_12_0 HI0.out) (xR HO_7.out) (by decide)) hk (fun _ h => h.2)) (fun _ h => h.1)); replace HO154 := xA (Kd.R_mono (Kd.R_keep (IsS129.apart (show IsS129 w0 _ g s0_0 t150 t151 from xJ129_12_0 HI0.out) (xR HO154.out) (by decide)) hk (fun _ h => h.2)) (fun _ h => h.1)); replace HK := xA (KeepBut.trans (xH0 HK.out) hk (.inl rfl)); replace HB := xA (hb); replace HI0 := xA (hi); (try clear hb hk hi))) | ((with_reducible refine gate_dst (N := 38) rfl ?_); refine Kd.R_lit (Kd.int .i64) _ 3 ?hg (N := 38) ?hd (xs := ([100000, (-100000), 100001, 4611686018427387904] : List Int)) (inner := [.int .i64 100000, .int .i64 (-100000), .int .i64 100001, .int .i64 4611686018427387904]) (ok := fun _ => True) (okp := fun _ => True) ?hr ?hp (fun _ hk => hk) trivial (Below.refl _ _) (Nat.le_refl _) (by simp) ?_; (case hd => rfl); (case hg => rfl); (case hr => first | (go_simp; done) | (go_simp; rfl)); (case hp => exact (Reps.one (show Kd.M (Kd.int .i64) _ _ _ 100000 [.int .i64 100000] from rfl) (Reps.one (show Kd.M (Kd.int .i64) _ _ _ (-100000) [.int .i64 (-100000)] from rfl) (Reps.one (show Kd.M (Kd.int .i64) _ _ _ 100001 [.int .i64 100001] from rfl) (Reps.one (show Kd.M (Kd.int .i64) _ _ _ 4611686018427387904 [.int .i64 4611686018427387904] from rfl) (Reps.none _ _)))))); intro v153 w22 ho23 hb hg_ hnew_; clear hg_ hnew_; (first | rw [← Ny152.out] at ho23 | (simp only [Int.reduceToNat] at ho23; rw [← Ny152.out] at ho23)); have HO154 := xA (Kd.R_lower (Kd.R_new' ho23 (Kd.R_lt (xR HO_7.out))) (keep_size (w := w) (g := g) (row := none) (xH0 HK.out))); replace HO_7 := xA (Kd.R_elder' (xR HO_7.out) (Kd.R_base ho23) hb); replace HK := xA (KeepBut.trans (xH0 HK.out) (KeepBut.of_below hb g none) (.inl rfl)); replace HB := xA (below_step (xB1 (IsS129.ge HI0.out) HB.out) hb); replace HI0 := xA (IsS129.below (xJ129_12_0 HI0.out) hb); clear hb ho23; obtain ⟨Ao24, co24, eo24⟩ := Kd.R_slice HO154.out; subst eo24) | ((with_reducible refine gate_builtin (b := .append) (xs := #[.tmp 36, .tmp 40]) rfl ?_); at_builtin; refine Kd.R_append (Kd.int .i64) w.heap.size rfl (.tmp 36) (.tmp 40) 24 3 (.int .i64 0) 8 rfl Try.underlying24 info3 rfl (by decide) (by omega) u7 x7_1 t155 [.int .i64 t155] (fun k_ => some k_ ≠ (.slice Ao24 y152.length co24 : Value).ownBlock) (fun _ => False) rfl rfl ?aP (fun _ hk => hk.elim) ?aF ?aO (Below.refl _ _) ?aS ?aL ?_; (case aP => exact rfl); (case aF => exact (fun k_ hk => Kd.fresh' (Kd.R_lt (xR HO154.out)) k_ hk)); (case aO => exact (by (with_reducible repeat (first | apply Kd.R_alloc | apply Kd.R_drewN | apply Kd.R_drew)); exact Kd.R_mono HO_7.out (fun _ hk => hk.2))); (case aS => exact (keep_size (w := w) (g := g) (row := none) (xH0 HK.out))); (case aL => have := LMc20.out; omega); intro v159 w26 ho hb hg hat; rw [← Ny158.out] at ho; replace HO154 := xA (Kd.R_after (ok := (fun _ => True)) (xR HO154.out) hg hat); replace HB := xA (below_weaken (xB1 (IsS129.ge HI0.out) HB.out) HL.out hb); replace HI0 := xA (IsS129.grown (xJ129_12_0 HI0.out) hg (IsS129.own_ne HI0.out HO_7.out (by decide))); replace HK := xA (KeepBut.trans (xH0 HK.out) (KeepBut.of_grown hg g) (Kd.R_base2 HO_7.out)); have HO160 := xA (ho); clear HO_7; clear ho hb hg hat))
    go_ret
    exact ⟨_, xr, by (with_reducible repeat (first | apply Kd.R_alloc | apply Kd.R_drewN | apply Kd.R_drew)); exact Kd.R_mono HO160.out (fun _ hk => trivial), xJ129_12_0 HI0.out, xB1 (IsS129.ge HI0.out) HB.out, xH0 HK.out⟩
   rw [if_neg c18] at H
   have c18b0 : (t149 == 0) = false := beq_eq_false_iff_ne.mpr c18
   have c18b1 : (t149 != 0) = true := bne_iff_ne.mpr c18
   by_cases c27 : t149 = 1
   rotate_left
   ·rw [if_neg c27] at H
    have c27b0 : (t149 == 1) = false := beq_eq_false_iff_ne.mpr c27
    have c27b1 : (t149 != 1) = true := bne_iff_ne.mpr c27
    simp only [Option.some.injEq, Prod.mk.injEq] at H
    obtain ⟨rfl, rfl, rfl⟩ := H
    go_wp2_with (first | (refine xG (some 33) Try.func229 #[.pointer (some ⟨g, 0, none⟩), .int .i64 16] ?_; (with_reducible refine (spec_l1Cur_pick.calls g s0_0 x1001_1 x1002_1 16 t149 t150 t151 w0 _ ?side1 ?side2 A17.out).mono ?_); (case side1 => exact xJ129_12_0 HI0.out); (case side2 => exact xB1 (IsS129.ge HI0.out) HB.out); rintro e w36 ⟨rfl, hi, hb, hk⟩; refine ⟨_, rfl, ?_⟩; replace HO_7 := xA (Kd.R_mono (Kd.R_keep (IsS129.apart (show IsS129 w0 _ g s0_0 x1001_1 x1002_1 from xJ129_12_0 HI0.out) (xR HO_7.out) (by decide)) hk (fun _ h => h.2)) (fun _ h => h.1)); replace HK := xA (KeepBut.trans (xH0 HK.out) hk (.inl rfl)); replace HB := xA (hb); replace HI0 := xA (hi); (try clear hb hk hi)))
    go_ret
    exact ⟨_, xr, xR HO_7.out, xJ129_12_0 HI0.out, xB1 (IsS129.ge HI0.out) HB.out, xH0 HK.out⟩

   rw [if_pos c27] at H
   have c27b0 : (t149 == 1) = true := beq_iff_eq.mpr c27
   have c27b1 : (t149 != 1) = false := bne_eq_false_iff_eq.mpr c27
   clear c27
   replace H := Option.bind_eq_some_iff.mp H
   obtain ⟨⟨t161, t162, t163⟩, A280, H⟩ := H
   (try dsimp only at H)
   have A28 := xA A280
   clear A280
   obtain ⟨ji29, hji29⟩ : ∃ j_ : Int, (wrap64 (64 + t161)) = j_ := ⟨_, rfl⟩
   (first | rw [hji29] at H | simp only [hji29] at H)
   (try rw [hji29] at A17)
   (try rw [hji29] at A28)
   have hji29w : (IntKind.i64.wrap (64 + t161)) = ji29 := (i64_w _).trans hji29
   by_cases c30 : 0 ≤ (ji29)
   rotate_left
   ·rw [if_neg c30] at H
    exact absurd H (by simp)
   rw [if_pos c30] at H
   have c30b0 := eq_true c30
   have c30b1 : decide (0 ≤ (ji29)) = true := decide_eq_true c30
   clear c30
   by_cases c31 : (ji29 : Int).toNat ≤ 35184372088832
   rotate_left
   ·rw [if_neg c31] at H
    exact absurd H (by simp)
   rw [if_pos c31] at H
   have c31b0 := eq_true c31
   have c31b1 : decide ((ji29 : Int).toNat ≤ 35184372088832) = true := decide_eq_true c31
   clear c31
   obtain ⟨y164, hy164⟩ : ∃ y_ : List Int, y_ = (List.replicate (ji29 : Int).toNat 0) := ⟨_, rfl⟩
   replace H : (some (y164, t162, t163)) = some (r1, r2, r3) := by first | (rw [hy164]; with_reducible exact H) | (have H2_ := (Option.bind_some _ _).symm.trans H; rw [hy164]; with_reducible exact H2_) | (have H2_ := (Option.bind_some _ _).symm.trans H; with_reducible exact H2_) | with_reducible exact H | (rw [hy164]; exact H) | exact H
   have Ny164 := xA hy164
   clear hy164
   simp only [Option.some.injEq, Prod.mk.injEq] at H
   obtain ⟨rfl, rfl, rfl⟩ := H
   go_wp2_with (first | (refine xq rfl ?_; first | (refine xG (some 33) Try.func229 #[.pointer (some ⟨g, 0, none⟩), .int .i64 16] ?_; (with_reducible refine (spec_l1Cur_pick.calls g s0_0 x1001_1 x1002_1 16 t149 t150 t151 w0 _ ?side1 ?side2 A17.out).mono ?_); (case side1 => exact xJ129_12_0 HI0.out); (case side2 => exact xB1 (IsS129.ge HI0.out) HB.out); rintro e w32 ⟨rfl, hi, hb, hk⟩; refine ⟨_, rfl, ?_⟩; replace HO_7 := xA (Kd.R_mono (Kd.R_keep (IsS129.apart (show IsS129 w0 _ g s0_0 x1001_1 x1002_1 from xJ129_12_0 HI0.out) (xR HO_7.out) (by decide)) hk (fun _ h => h.2)) (fun _ h => h.1)); replace HK := xA (KeepBut.trans (xH0 HK.out) hk (.inl rfl)); replace HB := xA (hb); replace HI0 := xA (hi); (try clear hb hk hi)) | (refine xG (some 45) Try.func229 #[.pointer (some ⟨g, 0, none⟩), .int .i64 2] ?_; (with_reducible refine (spec_l1Cur_pick.calls g s0_0 t150 t151 2 t161 t162 t163 w0 _ ?side1 ?side2 A28.out).mono ?_); (case side1 => exact xJ129_12_0 HI0.out); (case side2 => exact xB1 (IsS129.ge HI0.out) HB.out); rintro e w33 ⟨rfl, hi, hb, hk⟩; refine ⟨_, rfl, ?_⟩; replace HO_7 := xA (Kd.R_mono (Kd.R_keep (IsS129.apart (show IsS129 w0 _ g s0_0 t150 t151 from xJ129_12_0 HI0.out) (xR HO_7.out) (by decide)) hk (fun _ h => h.2)) (fun _ h => h.1)); replace HK := xA (KeepBut.trans (xH0 HK.out) hk (.inl rfl)); replace HB := xA (hb); replace HI0 := xA (hi); (try clear hb hk hi))) | ((with_reducible refine gate_dst (N := 47) rfl ?_); refine Kd.R_make (Kd.int .i64) _ 3 rfl (N := 47) rfl 24 _ _ rfl ji29 rfl rfl Try.underlying24 (.int .i64 0) 8 info3 rfl (by decide) (by omega) 0 (ok := fun _ => True) (okp := fun _ => True) rfl (fun _ hk => hk) trivial (of_decide_eq_true (by first | (with_reducible assumption) | assumption)) (Nat.le_trans (Nat.mul_le_mul_right _ (of_decide_eq_true (by first | (with_reducible assumption) | assumption) : ji29.toNat ≤ 35184372088832)) (by omega)) (Below.refl _ _) (Nat.le_refl _) ?_; intro v165 w34 ho35 hb hg_ hnew_; clear hg_ hnew_; (first | rw [← Ny164.out] at ho35 | (simp only [Int.reduceToNat] at ho35; rw [← Ny164.out] at ho35)); have HO166 := xA (Kd.R_lower (Kd.R_new' ho35 (Kd.R_lt (xR HO_7.out))) (keep_size (w := w) (g := g) (row := none) (xH0 HK.out))); replace HO_7 := xA (Kd.R_elder' (xR HO_7.out) (Kd.R_base ho35) hb); replace HK := xA (KeepBut.trans (xH0 HK.out) (KeepBut.of_below hb g none) (.inl rfl)); replace HB := xA (below_step (xB1 (IsS129.ge HI0.out) HB.out) hb); replace HI0 := xA (IsS129.below (xJ129_12_0 HI0.out) hb); clear hb ho35))
   go_ret
   exact ⟨_, by first | rfl | (simp [errW_none, errW_some] <;> rfl) | (simp only [← hji29]; first | rfl | (simp [errW_none, errW_some] <;> rfl)) | (simp [*, errW_none, errW_some] <;> rfl), by (with_reducible repeat (first | apply Kd.R_alloc | apply Kd.R_drewN | apply Kd.R_drew)); exact Kd.R_mono HO166.out (fun _ hk => trivial), xJ129_12_0 HI0.out, xB1 (IsS129.ge HI0.out) HB.out, xH0 HK.out⟩
/-! ### spec_l1Cur_word: function 265 -/
def spec_l1Cur_word.f (s0_0 : List Int) (s0_1 : Int) (s0_2 : Int) : Option (Int × Bool × Int × Int) := (spec_l1Cur_one.f s0_0 s0_1 s0_2 12).bind fun bt168 => (if bt168.1 = true then ((spec_l1Cur_among.f s0_0 bt168.2.1 bt168.2.2 (([(-1), 1, 2, 16, 17, 4611686018427387904] : List Int))).bind fun bt174 => ((spec_l1Cur_one.f s0_0 bt174.2.1 bt174.2.2 2).bind fun bt177 => (some (bt174.1, bt177.1, bt177.2.1, bt177.2.2)))) else ((spec_l1Cur_pick.f s0_0 bt168.2.1 bt168.2.2 7).bind fun bt180 => ((spec_l1Cur_one.f s0_0 bt180.2.1 bt180.2.2 2).bind fun bt183 => (some (wrap64 (2 + bt180.1), bt183.1, bt183.2.1, bt183.2.2)))))
set_option maxHeartbeats 200000000 in
set_option maxRecDepth 100000 in
theorem spec_l1Cur_word.calls (g : Nat) (s0_0 : List Int) (s0_1 : Int) (s0_2 : Int) (r1 : Int) (r2 : Bool) (r3 : Int) (r4 : Int) (w0 w : World) (hI : IsS129 w0 w g s0_0 s0_1 s0_2) (hB : Below w0.heap.size w0 w) (h : spec_l1Cur_word.f s0_0 s0_1 s0_2 = some (r1, r2, r3, r4)) :
  Calls Try.prog 265 #[.pointer (some ⟨g, 0, none⟩)] w fun e w' => e = .returned (.agg #[.int .i64 r1, .bool r2]) ∧ IsS129 w0 w' g s0_0 r3 r4 ∧ Below w0.heap.size w0 w' ∧ KeepBut w w' g none := by
 have hu46 := Try.underlying46
 have HI0 := xA hI
 have HK := xA (KeepBut.refl w g none)
 have HL := xA hB.size
 clear hI
 have HW0 := xA hB.size
 have HB := xA hB
 clear hB
 have H : ((spec_l1Cur_one.f s0_0 s0_1 s0_2 12).bind fun bt168 => (if bt168.1 = true then ((spec_l1Cur_among.f s0_0 bt168.2.1 bt168.2.2 (([(-1), 1, 2, 16, 17, 4611686018427387904] : List Int))).bind fun bt174 => ((spec_l1Cur_one.f s0_0 bt174.2.1 bt174.2.2 2).bind fun bt177 => (some (bt174.1, bt177.1, bt177.2.1, bt177.2.2)))) else ((spec_l1Cur_pick.f s0_0 bt168.2.1 bt168.2.2 7).bind fun bt180 => ((spec_l1Cur_one.f s0_0 bt180.2.1 bt180.2.2 2).bind fun bt183 => (some (wrap64 (2 + bt180.1), bt183.1, bt183.2.1, bt183.2.2)))))) = some (r1, r2, r3, r4) := h
 clear h
 replace H := Option.bind_eq_some_iff.mp H
 obtain ⟨⟨t168, t169, t170⟩, A20, H⟩ := H
 (try dsimp only at H)
 have A2 := xA A20
 clear A20
 by_cases c3 : t168 = true
 rotate_left
 ·replace c3 := Bool.eq_false_iff.mpr c3
  subst c3
  rw [if_neg (show ¬ (false = true) by decide)] at H
  replace H := Option.bind_eq_some_iff.mp H
  obtain ⟨⟨t180, t181, t182⟩, A150, H⟩ := H
  (try dsimp only at H)
  have A15 := xA A150
  clear A150
  replace H := Option.bind_eq_some_iff.mp H
  obtain ⟨⟨t183, t184, t185⟩, A160, H⟩ := H
  (try dsimp only at H)
  have A16 := xA A160
  clear A160
  simp only [Option.some.injEq, Prod.mk.injEq] at H
  obtain ⟨rfl, rfl, rfl, rfl⟩ := H
  go_enter Try.func265, Try.ntmps265
  go_wp2_with (first | (refine xq rfl ?_; first | (refine xG (some 4) Try.func227 #[.pointer (some ⟨g, 0, none⟩), .int .i64 12] ?_; (with_reducible refine (spec_l1Cur_one.calls g s0_0 s0_1 s0_2 12 false t169 t170 w0 _ ?side1 ?side2 A2.out).mono ?_); (case side1 => exact xJ129_12_1 NB0_167.out HI0.out); (case side2 => exact xB2 (IsS129.ge HI0.out) GE167.out HB.out); rintro e w18 ⟨rfl, hi, hb, hk⟩; refine ⟨_, rfl, ?_⟩; replace BK167 := xkk hk BK167 NB167_0; replace HK := xA (KeepBut.trans (xH1 GW167.out HK.out) hk (.inl rfl)); replace HB := xA (hb); replace HI0 := xA (hi); (try clear hb hk hi)) | (refine xG (some 12) Try.func229 #[.pointer (some ⟨g, 0, none⟩), .int .i64 7] ?_; (with_reducible refine (spec_l1Cur_pick.calls g s0_0 t169 t170 7 t180 t181 t182 w0 _ ?side1 ?side2 A15.out).mono ?_); (case side1 => exact xJ129_12_1 NB0_167.out HI0.out); (case side2 => exact xB2 (IsS129.ge HI0.out) GE167.out HB.out); rintro e w19 ⟨rfl, hi, hb, hk⟩; refine ⟨_, rfl, ?_⟩; replace BK167 := xkk hk BK167 NB167_0; replace HK := xA (KeepBut.trans (xH1 GW167.out HK.out) hk (.inl rfl)); replace HB := xA (hb); replace HI0 := xA (hi); (try clear hb hk hi)) | (refine xG (some 15) Try.func227 #[.pointer (some ⟨g, 0, none⟩), .int .i64 2] ?_; (with_reducible refine (spec_l1Cur_one.calls g s0_0 t181 t182 2 t183 t184 t185 w0 _ ?side1 ?side2 A16.out).mono ?_); (case side1 => exact xJ129_12_1 NB0_167.out HI0.out); (case side2 => exact xB2 (IsS129.ge HI0.out) GE167.out HB.out); rintro e w20 ⟨rfl, hi, hb, hk⟩; refine ⟨_, rfl, ?_⟩; replace BK167 := xkk hk BK167 NB167_0; replace HK := xA (KeepBut.trans (xH1 GW167.out HK.out) hk (.inl rfl)); replace HB := xA (hb); replace HI0 := xA (hi); (try clear hb hk hi); have hnb21 := NB167_0.out; have hnc21 := NB0_167.out; replace hz167 := blk_cell BK167.out; replace hy167 := blk_frozen BK167.out)) | (refine xg 2 rfl ?_; refine xV 2 #[.int .i64 0, .bool false] 46 ?_; intro gb167 hg w17 hbox hb; replace HB := xA (below_step (xB1 (IsS129.ge HI0.out) HB.out) hb); have BK167 := xA (hbox); have GW167 := xA ((by rw [hg]; exact (keep_size (w := w) (g := g) (row := none) (xH0 HK.out)) : w.heap.size ≤ gb167)); have GE167 := xA ((Nat.le_trans HW0.out (by rw [hg]; exact (keep_size (w := w) (g := g) (row := none) (xH0 HK.out)) : w.heap.size ≤ gb167) : w0.heap.size ≤ gb167)); replace HK := xA (KeepBut.trans (xH0 HK.out) (KeepBut.of_below hb g none) (.inl rfl)); have NB0_167 := xA ((by rw [hg]; exact Nat.ne_of_lt (IsS129.lt (show IsS129 w0 _ g s0_0 s0_1 s0_2 from xJ129_12_0 HI0.out)) : g ≠ gb167)); have NB167_0 := xA ((by rw [hg]; exact Nat.ne_of_gt (IsS129.lt (show IsS129 w0 _ g s0_0 s0_1 s0_2 from xJ129_12_0 HI0.out)) : gb167 ≠ g)); replace HI0 := xA (IsS129.below (xJ129_12_0 HI0.out) hb); clear hb hbox hg))
  refine bodyPost_ret (results_cell_row rfl _ _ gb167 46 #[.int .i64 (wrap64 (2 + t180)), .bool t183] (0, 0) _ rfl (xPt0 BK167.out) Try.underlying46 rfl (by kernel_rfl)) rfl ?_
  exact ⟨xr, xJ129_12_1 NB0_167.out HI0.out, xB2 (IsS129.ge HI0.out) GE167.out HB.out, xH1 GW167.out HK.out⟩

 subst c3
 rw [if_pos rfl] at H
 obtain ⟨y171, hy171⟩ : ∃ y_ : List Int, y_ = (([(-1), 1, 2, 16, 17, 4611686018427387904] : List Int)) := ⟨_, rfl⟩
 replace H : ((spec_l1Cur_among.f s0_0 t169 t170 y171).bind fun bt174 => ((spec_l1Cur_one.f s0_0 bt174.2.1 bt174.2.2 2).bind fun bt177 => (some (bt174.1, bt177.1, bt177.2.1, bt177.2.2)))) = some (r1, r2, r3, r4) := by first | (rw [hy171]; with_reducible exact H) | (have H2_ := (Option.bind_some _ _).symm.trans H; rw [hy171]; with_reducible exact H2_) | (have H2_ := (Option.bind_some _ _).symm.trans H; with_reducible exact H2_) | with_reducible exact H | (rw [hy171]; exact H) | exact H
 have Ny171 := xA hy171
 clear hy171
 replace H := Option.bind_eq_some_iff.mp H
 obtain ⟨⟨t174, t175, t176⟩, A40, H⟩ := H
 (try dsimp only at H)
 have A4 := xA A40
 clear A40
 replace H := Option.bind_eq_some_iff.mp H
 obtain ⟨⟨t177, t178, t179⟩, A50, H⟩ := H
 (try dsimp only at H)
 have A5 := xA A50
 clear A50
 simp only [Option.some.injEq, Prod.mk.injEq] at H
 obtain ⟨rfl, rfl, rfl, rfl⟩ := H
 go_enter Try.func265, Try.ntmps265
 go_wp2_with (first | (refine xq rfl ?_; first | (refine xG (some 4) Try.func227 #[.pointer (some ⟨g, 0, none⟩), .int .i64 12] ?_; (with_reducible refine (spec_l1Cur_one.calls g s0_0 s0_1 s0_2 12 true t169 t170 w0 _ ?side1 ?side2 A2.out).mono ?_); (case side1 => exact xJ129_12_1 NB0_167.out HI0.out); (case side2 => exact xB2 (IsS129.ge HI0.out) GE167.out HB.out); rintro e w7 ⟨rfl, hi, hb, hk⟩; refine ⟨_, rfl, ?_⟩; replace BK167 := xkk hk BK167 NB167_0; replace HK := xA (KeepBut.trans (xH1 GW167.out HK.out) hk (.inl rfl)); replace HB := xA (hb); replace HI0 := xA (hi); (try clear hb hk hi)) | (refine xG (some 7) Try.func228 #[.pointer (some ⟨g, 0, none⟩), .slice Ao10 y171.length co10] ?_; (with_reducible refine (spec_l1Cur_among.calls g s0_0 t169 t170 _ _ y171 t174 t175 t176 w0 _ ?side1 ?side2 ?side3 ?side4 ?side5 A4.out).mono ?_); (case side1 => exact xJ129_12_1 NB0_167.out HI0.out); (case side2 => exact xB2 (IsS129.ge HI0.out) GE167.out HB.out); (case side3 => exact xC ((Kd.R_reads' HO173.out).2.2)); (case side4 => exact (Kd.R_reads' HO173.out).2.1); (case side5 => exact far_slice (IsS129.own_ne HI0.out HO173.out (by decide))); rintro e w11 ⟨rfl, hi, hb, hk⟩; refine ⟨_, rfl, ?_⟩; replace BK167 := xkk hk BK167 NB167_0; replace HO173 := xA (Kd.R_mono (Kd.R_keep (IsS129.apart (show IsS129 w0 _ g s0_0 t169 t170 from xJ129_12_1 NB0_167.out HI0.out) (xR HO173.out) (by decide)) hk (fun _ h => h.2)) (fun _ h => h.1)); replace HK := xA (KeepBut.trans (xH1 GW167.out HK.out) hk (.inl rfl)); replace HB := xA (hb); replace HI0 := xA (hi); (try clear hb hk hi)) | (refine xG (some 9) Try.func227 #[.pointer (some ⟨g, 0, none⟩), .int .i64 2] ?_; (with_reducible refine (spec_l1Cur_one.calls g s0_0 t175 t176 2 t177 t178 t179 w0 _ ?side1 ?side2 A5.out).mono ?_); (case side1 => exact xJ129_12_1 NB0_167.out HI0.out); (case side2 => exact xB2 (IsS129.ge HI0.out) GE167.out HB.out); rintro e w12 ⟨rfl, hi, hb, hk⟩; refine ⟨_, rfl, ?_⟩; replace BK167 := xkk hk BK167 NB167_0; replace HO173 := xA (Kd.R_mono (Kd.R_keep (IsS129.apart (show IsS129 w0 _ g s0_0 t175 t176 from xJ129_12_1 NB0_167.out HI0.out) (xR HO173.out) (by decide)) hk (fun _ h => h.2)) (fun _ h => h.1)); replace HK := xA (KeepBut.trans (xH1 GW167.out HK.out) hk (.inl rfl)); replace HB := xA (hb); replace HI0 := xA (hi); (try clear hb hk hi); have hnb13 := NB167_0.out; have hnc13 := NB0_167.out; replace hz167 := blk_cell BK167.out; replace hy167 := blk_frozen BK167.out)) | (refine xg 2 rfl ?_; refine xV 2 #[.int .i64 0, .bool false] 46 ?_; intro gb167 hg w6 hbox hb; replace HB := xA (below_step (xB1 (IsS129.ge HI0.out) HB.out) hb); have BK167 := xA (hbox); have GW167 := xA ((by rw [hg]; exact (keep_size (w := w) (g := g) (row := none) (xH0 HK.out)) : w.heap.size ≤ gb167)); have GE167 := xA ((Nat.le_trans HW0.out (by rw [hg]; exact (keep_size (w := w) (g := g) (row := none) (xH0 HK.out)) : w.heap.size ≤ gb167) : w0.heap.size ≤ gb167)); replace HK := xA (KeepBut.trans (xH0 HK.out) (KeepBut.of_below hb g none) (.inl rfl)); have NB0_167 := xA ((by rw [hg]; exact Nat.ne_of_lt (IsS129.lt (show IsS129 w0 _ g s0_0 s0_1 s0_2 from xJ129_12_0 HI0.out)) : g ≠ gb167)); have NB167_0 := xA ((by rw [hg]; exact Nat.ne_of_gt (IsS129.lt (show IsS129 w0 _ g s0_0 s0_1 s0_2 from xJ129_12_0 HI0.out)) : gb167 ≠ g)); replace HI0 := xA (IsS129.below (xJ129_12_0 HI0.out) hb); clear hb hbox hg) | ((with_reducible refine gate_dst (N := 6) rfl ?_); refine Kd.R_lit (Kd.int .i64) _ 3 ?hg (N := 6) ?hd (xs := ([(-1), 1, 2, 16, 17, 4611686018427387904] : List Int)) (inner := [.int .i64 (-1), .int .i64 1, .int .i64 2, .int .i64 16, .int .i64 17, .int .i64 4611686018427387904]) (ok := fun _ => True) (okp := fun _ => True) ?hr ?hp (fun _ hk => hk) trivial (Below.refl _ _) (Nat.le_refl _) (by simp) ?_; (case hd => rfl); (case hg => rfl); (case hr => first | (go_simp; done) | (go_simp; rfl)); (case hp => exact (Reps.one (show Kd.M (Kd.int .i64) _ _ _ (-1) [.int .i64 (-1)] from rfl) (Reps.one (show Kd.M (Kd.int .i64) _ _ _ 1 [.int .i64 1] from rfl) (Reps.one (show Kd.M (Kd.int .i64) _ _ _ 2 [.int .i64 2] from rfl) (Reps.one (show Kd.M (Kd.int .i64) _ _ _ 16 [.int .i64 16] from rfl) (Reps.one (show Kd.M (Kd.int .i64) _ _ _ 17 [.int .i64 17] from rfl) (Reps.one (show Kd.M (Kd.int .i64) _ _ _ 4611686018427387904 [.int .i64 4611686018427387904] from rfl) (Reps.none _ _)))))))); intro v172 w8 ho9 hb hg_ hnew_; clear hg_ hnew_; (first | rw [← Ny171.out] at ho9 | (simp only [Int.reduceToNat] at ho9; rw [← Ny171.out] at ho9)); have HO173 := xA (Kd.R_lower ho9 (keep_size (w := w) (g := g) (row := none) (xH1 GW167.out HK.out))); replace BK167 := xkb BK167 hb; replace HK := xA (KeepBut.trans (xH1 GW167.out HK.out) (KeepBut.of_below hb g none) (.inl rfl)); replace HB := xA (below_step (xB2 (IsS129.ge HI0.out) GE167.out HB.out) hb); replace HI0 := xA (IsS129.below (xJ129_12_1 NB0_167.out HI0.out) hb); clear hb ho9; obtain ⟨Ao10, co10, eo10⟩ := Kd.R_slice HO173.out; subst eo10))
 refine bodyPost_ret (results_cell_row rfl _ _ gb167 46 #[.int .i64 t174, .bool t177] (0, 0) _ rfl (xPt0 BK167.out) Try.underlying46 rfl (by kernel_rfl)) rfl ?_
 exact ⟨xr, xJ129_12_1 NB0_167.out HI0.out, xB2 (IsS129.ge HI0.out) GE167.out HB.out, xH1 GW167.out HK.out⟩
end Go.Proofs.Ytjplcongellcmaa.PFnFirstRuns
