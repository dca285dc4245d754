/- What each Go function that the statement FnStepsAdapt reaches answers, proved call by call. No condition beyond those that the theorems print. (Written by wip/tools/xprint.py of this repo, over the kit's print.) -/
import Derived.Test.YtjplcongellcmaaPFnStepsAdaptx0
import Derived.Test.YtjplcongellcmaaPFnStepsAdaptx3
namespace Go.Proofs.Ytjplcongellcmaa.PFnStepsAdapt
open Go.RowKit Go.Proofs.YtjplcongellcmaaW.PrintWords Go.Proofs.YtjplcongellcmaaW.PrintLast Go.Proofs.YtjplcongellcmaaW.PrintMore
attribute [local go_sem] max2_int min2_int max_two min_two max_three min_three max_four min_four   -- for this text's walks alone
set_option linter.unusedVariables false
set_option linter.unusedSimpArgs false
def x4a0 : Array Bool := #[false, false, false, false, false, false, false, false, false, false, false, false, false, false]
def x4a1 : Array Bool := #[true, false, false, false, false, false, false, false, false, false, false, false, false, false]
def x4a2 : Array Bool := #[true, true, false, false, false, false, false, false, false, false, false, false, false, false]
def x4a3 : Array Bool := #[true, true, true, false, false, false, false, false, false, false, false, false, false, false]
def x4a4 : Array Bool := #[true, true, true, false, true, false, false, false, false, false, false, false, false, false]
def x4a5 : Array Bool := #[true, true, true, false, true, true, false, false, false, false, false, false, false, false]
def x4a6 : Array Bool := #[true, true, true, false, true, true, true, false, false, false, false, false, false, false]
def x4a7 : Array Bool := #[true, true, true, false, true, true, true, true, false, false, false, false, false, false]
def x4a8 : Array Bool := #[true, true, true, true, true, true, true, true, false, false, false, false, false, false]
def x4a9 : Array Bool := #[true, true, true, true, true, true, true, true, true, false, false, false, false, false]
def x4a10 : Array Bool := #[true, true, true, true, true, true, true, true, true, true, false, false, false, false]
def x4a11 : Array Bool := #[true, true, true, true, true, true, true, true, true, true, true, false, false, false]
def x4a12 : Array Bool := #[true, true, true, true, true, true, true, true, true, true, true, true, false, false]
def x4a13 : Array Bool := #[true, true, true, true, true, true, true, true, true, true, true, true, true, false]
def x4a14 : Array Bool := #[true, true, true, true, true, true, true, true, true, true, true, true, true, true]

/-! ### spec_tnStep: function 237 -/
def spec_tnStep.f (a0 : Int) : Option (Bool) := (spec_l1In.f a0 1 4096).bind fun t212 => (some t212)
set_option maxHeartbeats 8000000 in
set_option maxRecDepth 100000 in
theorem spec_tnStep.calls (a0 : Int) (r : Bool) (w : World) (h : spec_tnStep.f a0 = some r) :
  Calls Try.prog 237 #[.int .i64 a0] w fun e w' => e = .returned (.bool r) ∧ Drawn0 w w' := by
 have H : ((spec_l1In.f a0 1 4096).bind fun t212 => (some t212)) = some r := h
 clear h
 replace H := Option.bind_eq_some_iff.mp H
 obtain ⟨t212, A20, H⟩ := H
 (try dsimp only at H)
 have A2 := Aside0.mk A20
 clear A20
 obtain rfl := Option.some.inj H
 go_enter Try.func237, Try.ntmps237
 go_wp2_with (first | ((with_reducible refine gate_callee (f := 230) rfl ?_); refine goesL_ (some 4) rfl rfl Try.func230 (by kernel_rfl) rfl #[.int .i64 a0, .int .i64 1, .int .i64 4096] rfl (by (try simp only [List.map_toArray, List.map_cons, List.map_nil]); first | done | rfl | (simp only [List.length_drop, List.length_take]; rfl)) ?_; (with_reducible refine (spec_l1In.calls a0 1 4096 t212 _ A2.out).mono ?_); rintro e w' ⟨rfl, ⟨nd, rfl⟩⟩; refine ⟨_, rfl, ?_⟩))
 go_ret
 exact ⟨by first | rfl | (simp; done) | (simp [*]; done), by repeat (first | exact Drawn0.refl _ | apply Drawn0.step)⟩

/-! ### spec_tnBit: function 244 -/
def spec_tnBit.f (a0 : Int) (a1 : Int) : Option (Int) := if a0 ≥ a1 then (some 1) else (some (-1))
set_option maxHeartbeats 8000000 in
set_option maxRecDepth 100000 in
theorem spec_tnBit.calls (a0 : Int) (a1 : Int) (r : Int) (w : World) (h : spec_tnBit.f a0 a1 = some r) :
  Calls Try.prog 244 #[.int .i64 a0, .int .i64 a1] w fun e w' => e = .returned (.int .i64 r) ∧ Drawn0 w w' := by
 have H : (if a0 ≥ a1 then (some 1) else (some (-1))) = some r := h
 clear h
 by_cases c3 : a0 ≥ a1
 ·rw [if_pos c3] at H
  have c3b0 : decide (a1 ≤ a0) = true := decide_eq_true c3
  clear c3
  obtain rfl := Option.some.inj H
  go_enter Try.func244, Try.ntmps244
  go_wp2
  go_ret
  exact ⟨by first | rfl | (simp; done) | (simp [*]; done), by repeat (first | exact Drawn0.refl _ | apply Drawn0.step)⟩
 rw [if_neg c3] at H
 have c3b0 : decide (a1 ≤ a0) = false := decide_eq_false c3
 clear c3
 obtain rfl := Option.some.inj H
 go_enter Try.func244, Try.ntmps244
 go_wp2
 go_ret
 exact ⟨by first | rfl | (simp; done) | (simp [*]; done), by repeat (first | exact Drawn0.refl _ | apply Drawn0.step)⟩

/-! ### spec_l1Least: function 270 -/
def spec_l1Least.f (a0 : Int) (a1 : Int) : Option (Int) := if a0 < a1 then (some a0) else (some a1)
set_option maxHeartbeats 8000000 in
set_option maxRecDepth 100000 in
theorem spec_l1Least.calls (a0 : Int) (a1 : Int) (r : Int) (w : World) (h : spec_l1Least.f a0 a1 = some r) :
  Calls Try.prog 270 #[.int .i64 a0, .int .i64 a1] w fun e w' => e = .returned (.int .i64 r) ∧ Drawn0 w w' := by
 have H : (if a0 < a1 then (some a0) else (some a1)) = some r := h
 clear h
 by_cases c3 : a0 < a1
 ·rw [if_pos c3] at H
  have c3b0 : decide (a0 < a1) = true := decide_eq_true c3
  clear c3
  obtain rfl := Option.some.inj H
  go_enter Try.func270, Try.ntmps270
  go_wp2
  go_ret
  exact ⟨by first | rfl | (simp; done) | (simp [*]; done), by repeat (first | exact Drawn0.refl _ | apply Drawn0.step)⟩
 rw [if_neg c3] at H
 have c3b0 : decide (a0 < a1) = false := decide_eq_false c3
 clear c3
 obtain rfl := Option.some.inj H
 go_enter Try.func270, Try.ntmps270
 go_wp2
 go_ret
 exact ⟨by first | rfl | (simp; done) | (simp [*]; done), by repeat (first | exact Drawn0.refl _ | apply Drawn0.step)⟩

/-! ### spec_l1Most: function 271 -/
def spec_l1Most.f (a0 : Int) (a1 : Int) : Option (Int) := if a0 > a1 then (some a0) else (some a1)
set_option maxHeartbeats 8000000 in
set_option maxRecDepth 100000 in
theorem spec_l1Most.calls (a0 : Int) (a1 : Int) (r : Int) (w : World) (h : spec_l1Most.f a0 a1 = some r) :
  Calls Try.prog 271 #[.int .i64 a0, .int .i64 a1] w fun e w' => e = .returned (.int .i64 r) ∧ Drawn0 w w' := by
 have H : (if a0 > a1 then (some a0) else (some a1)) = some r := h
 clear h
 by_cases c3 : a0 > a1
 ·rw [if_pos c3] at H
  have c3b0 : decide (a1 < a0) = true := decide_eq_true c3
  clear c3
  obtain rfl := Option.some.inj H
  go_enter Try.func271, Try.ntmps271
  go_wp2
  go_ret
  exact ⟨by first | rfl | (simp; done) | (simp [*]; done), by repeat (first | exact Drawn0.refl _ | apply Drawn0.step)⟩
 rw [if_neg c3] at H
 have c3b0 : decide (a1 < a0) = false := decide_eq_false c3
 clear c3
 obtain rfl := Option.some.inj H
 go_enter Try.func271, Try.ntmps271
 go_wp2
 go_ret
 exact ⟨by first | rfl | (simp; done) | (simp [*]; done), by repeat (first | exact Drawn0.refl _ | apply Drawn0.step)⟩

/-- A state of type 196 at block g of W; what its slices lead to came in by w0. -/
def IsS196 (w0 W : World) (g : Nat) (f0 : Int) (f1 : Int) (f2 : Int) : Prop := W.heap[g]? = some (.cells #[.int .i64 f0, .int .i64 f1, .int .i64 f2] 196 (0, 0)) ∧ w0.heap.size ≤ g
theorem IsS196.grown {w0 W : World} {g : Nat} {f0 : Int} {f1 : Int} {f2 : Int} {W1 : World} {row : Option Nat} (h : IsS196 w0 W g f0 f1 f2) (hw : W.grownBy W1 row) (hne : some g ≠ row) : IsS196 w0 W1 g f0 f1 f2 := by
 obtain ⟨hb, hg⟩ := h
 exact ⟨blk_grown hb hw hne, hg⟩
theorem IsS196.own_neN {w0 W : World} {g : Nat} {f0 : Int} {f1 : Int} {f2 : Int} {α : Type} {d : Kd α} {e : Nat} {base : Nat} {ok : Nat → Prop} {v : Value} {xs : List α} (h : IsS196 w0 W g f0 f1 f2) (ho : Kd.N d e W base ok v xs) (ht : e ≠ 196) : some g ≠ v.ownBlock := by
 obtain ⟨hb, hg⟩ := h
 exact Kd.N_ne ho hb ht
theorem IsS196.fresh {w0 W : World} {g : Nat} {f0 : Int} {f1 : Int} {f2 : Int} (h : IsS196 w0 W g f0 f1 f2) : ∀ k, W.heap.size ≤ k → k ≠ g := by
 obtain ⟨hb, hg⟩ := h
 exact Kd.freshB hb
theorem IsS196.kept {w0 W : World} {g : Nat} {f0 : Int} {f1 : Int} {f2 : Int} {W1 : World} {S : Nat → Prop} (h : IsS196 w0 W g f0 f1 f2) (hk : Kept W W1 S) (hne : ¬ S g) : IsS196 w0 W1 g f0 f1 f2 := by
 obtain ⟨hb, hg⟩ := h
 exact ⟨blk_kept hb hk hne, hg⟩
theorem IsS196.below {w0 W : World} {g : Nat} {f0 : Int} {f1 : Int} {f2 : Int} {W1 : World} (h : IsS196 w0 W g f0 f1 f2) (hw : Below W.heap.size W W1) : IsS196 w0 W1 g f0 f1 f2 := h.grown (grown_of_below hw none) (by simp)
theorem IsS196.alloc {w0 W : World} {g : Nat} {f0 : Int} {f1 : Int} {f2 : Int} (h : IsS196 w0 W g f0 f1 f2) (o : Obj) : IsS196 w0 (W.alloc o) g f0 f1 f2 := h.below (below_alloc (Below.refl _ _) o)
theorem IsS196.drewN {w0 W : World} {g : Nat} {f0 : Int} {f1 : Int} {f2 : Int} (h : IsS196 w0 W g f0 f1 f2) (m : Nat) : IsS196 w0 (W.drewN m) g f0 f1 f2 := h
theorem IsS196.drew {w0 W : World} {g : Nat} {f0 : Int} {f1 : Int} {f2 : Int} (h : IsS196 w0 W g f0 f1 f2) : IsS196 w0 W.drew g f0 f1 f2 := h
theorem IsS196.at_ {w0 W : World} {g : Nat} {f0 : Int} {f1 : Int} {f2 : Int} {w' : World} {m : Nat} (hq : W.drewN m = w') (h : IsS196 w0 W g f0 f1 f2) : IsS196 w0 w' g f0 f1 f2 := by subst hq; exact IsS196.drewN h m
theorem IsS196.apart {w0 W : World} {g : Nat} {f0 : Int} {f1 : Int} {f2 : Int} {α : Type} {d : Kd α} {e : Nat} {base : Nat} {ok : Nat → Prop} {v : Value} {xs : List α} (h : IsS196 w0 W g f0 f1 f2) (ho : d.R e W base ok v xs) (ht : ∀ q, q ∈ e :: d.E → q ≠ 196) : d.R e W base (fun k => ok k ∧ k ≠ g) v xs := by
 obtain ⟨hb, hg⟩ := h
 exact Kd.R_types ho hb ht
theorem IsS196.own_ne {w0 W : World} {g : Nat} {f0 : Int} {f1 : Int} {f2 : Int} {α : Type} {d : Kd α} {e : Nat} {base : Nat} {ok : Nat → Prop} {v : Value} {xs : List α} (h : IsS196 w0 W g f0 f1 f2) (ho : d.R e W base ok v xs) (ht : e ≠ 196) : some g ≠ v.ownBlock := by
 obtain ⟨hb, hg⟩ := h
 exact Kd.R_ne ho hb ht
theorem IsS196.apartQ {w0 W : World} {g : Nat} {f0 : Int} {f1 : Int} {f2 : Int} {α : Type} {d : Kd α} {e : Nat} {base : Nat} {ok : Nat → Prop} {v : Value} {xs : List α} (h : IsS196 w0 W g f0 f1 f2) (ho : d.Q e W base ok v xs) (ht : ∀ q, q ∈ e :: d.E → q ≠ 196) : d.Q e W base (fun k => ok k ∧ k ≠ g) v xs := by
 obtain ⟨hb, hg⟩ := h
 exact Kd.Q_types ho hb ht
theorem IsS196.own_neQ {w0 W : World} {g : Nat} {f0 : Int} {f1 : Int} {f2 : Int} {α : Type} {d : Kd α} {e : Nat} {base : Nat} {ok : Nat → Prop} {v : Value} {xs : List α} (h : IsS196 w0 W g f0 f1 f2) (ho : d.Q e W base ok v xs) (ht : e ≠ 196) : some g ≠ v.ownBlock := by
 obtain ⟨hb, hg⟩ := h
 exact Kd.Q_ne ho hb ht
theorem IsS196.apartS {w0 W : World} {g : Nat} {f0 : Int} {f1 : Int} {f2 : Int} {α : Type} {d : Kd α} {e : Nat} {base : Nat} {ok : Nat → Prop} {v : Value} {xs : List α} (h : IsS196 w0 W g f0 f1 f2) (ho : d.S e W base ok v xs) (ht : ∀ q, q ∈ e :: d.E → q ≠ 196) : d.S e W base (fun k => ok k ∧ k ≠ g) v xs := by
 obtain ⟨hb, hg⟩ := h
 exact Kd.S_types ho hb ht
theorem IsS196.own_neS {w0 W : World} {g : Nat} {f0 : Int} {f1 : Int} {f2 : Int} {α : Type} {d : Kd α} {e : Nat} {base : Nat} {ok : Nat → Prop} {v : Value} {xs : List α} (h : IsS196 w0 W g f0 f1 f2) (ho : d.S e W base ok v xs) (ht : e ≠ 196) : some g ≠ v.ownBlock := by
 obtain ⟨hb, hg⟩ := h
 exact Kd.S_ne ho hb ht
theorem IsS196.lt {w0 W : World} {g : Nat} {f0 : Int} {f1 : Int} {f2 : Int} (h : IsS196 w0 W g f0 f1 f2) : g < W.heap.size := by
 obtain ⟨hb, hg⟩ := h
 exact blk_lt hb
theorem IsS196.ge {w0 W : World} {g : Nat} {f0 : Int} {f1 : Int} {f2 : Int} (h : IsS196 w0 W g f0 f1 f2) : w0.heap.size ≤ g := by
 obtain ⟨hb, hg⟩ := h
 exact hg
theorem IsS196.ne_blk {w0 W : World} {g : Nat} {f0 : Int} {f1 : Int} {f2 : Int} {a : Nat} {cs : Array Value} {t : TypeId} {fr : Nat × Nat} (h : IsS196 w0 W g f0 f1 f2) (hb2 : W.heap[a]? = some (.cells cs t fr)) (ht : t ≠ 196) : g ≠ a := by
 obtain ⟨hb, hg⟩ := h
 rintro rfl
 rw [hb] at hb2
 injection hb2 with hb2
 injection hb2 with _ ht2
 exact ht ht2.symm
theorem IsS196.far {w0 W : World} {g : Nat} {f0 : Int} {f1 : Int} {f2 : Int} {p : Addr} (h : IsS196 w0 W g f0 f1 f2) (hne : g ≠ p.block) (u : Value) : IsS196 w0 (W.setCell p u) g f0 f1 f2 := by
 obtain ⟨hb, hg⟩ := h
 exact ⟨blk_far hb hne u, hg⟩
theorem cellS196_0 {W : World} {g : Nat} {f0 : Int} {f1 : Int} {f2 : Int} (h : W.heap[g]? = some (.cells #[.int .i64 f0, .int .i64 f1, .int .i64 f2] 196 (0, 0))) : W.cell? ⟨g, 0, none⟩ = some (.int .i64 f0) := (blk_cell h 0).trans rfl
theorem IsS196.set_0 {w0 W : World} {g : Nat} {f0 : Int} {f1 : Int} {f2 : Int} (h : IsS196 w0 W g f0 f1 f2) (x : Int) : IsS196 w0 (W.setCell ⟨g, 0, none⟩ (.int .i64 x)) g x f1 f2 := by
 obtain ⟨hb, hg⟩ := h
 exact ⟨by simpa using blk_set hb 0 (.int .i64 x), hg⟩
theorem cellS196_1 {W : World} {g : Nat} {f0 : Int} {f1 : Int} {f2 : Int} (h : W.heap[g]? = some (.cells #[.int .i64 f0, .int .i64 f1, .int .i64 f2] 196 (0, 0))) : W.cell? ⟨g, 1, none⟩ = some (.int .i64 f1) := (blk_cell h 1).trans rfl
theorem IsS196.set_1 {w0 W : World} {g : Nat} {f0 : Int} {f1 : Int} {f2 : Int} (h : IsS196 w0 W g f0 f1 f2) (x : Int) : IsS196 w0 (W.setCell ⟨g, 1, none⟩ (.int .i64 x)) g f0 x f2 := by
 obtain ⟨hb, hg⟩ := h
 exact ⟨by simpa using blk_set hb 1 (.int .i64 x), hg⟩
theorem cellS196_2 {W : World} {g : Nat} {f0 : Int} {f1 : Int} {f2 : Int} (h : W.heap[g]? = some (.cells #[.int .i64 f0, .int .i64 f1, .int .i64 f2] 196 (0, 0))) : W.cell? ⟨g, 2, none⟩ = some (.int .i64 f2) := (blk_cell h 2).trans rfl
theorem IsS196.set_2 {w0 W : World} {g : Nat} {f0 : Int} {f1 : Int} {f2 : Int} (h : IsS196 w0 W g f0 f1 f2) (x : Int) : IsS196 w0 (W.setCell ⟨g, 2, none⟩ (.int .i64 x)) g f0 f1 x := by
 obtain ⟨hb, hg⟩ := h
 exact ⟨by simpa using blk_set hb 2 (.int .i64 x), hg⟩
theorem IsS196.new (w0 W : World) (f0 : Int) (f1 : Int) (f2 : Int) (hB : Below w0.heap.size w0 W) : IsS196 w0 (W.alloc (.cells #[.int .i64 f0, .int .i64 f1, .int .i64 f2] 196)) W.heap.size f0 f1 f2 := ⟨by simpa using heap_alloc_new W _, hB.size⟩

/-! ### spec_tnStepper_take: function 374 -/
def spec_tnStepper_take.f (s0_0 : Int) (s0_1 : Int) (s0_2 : Int) (a1 : Int) : Option (Int × Int × Int) := if s0_2 = 0 then (some (wrap64 (s0_0 + (wrap64 (a1 * s0_1))), s0_1, a1)) else (if a1 = s0_2 then ((spec_l1Least.f (wrap64 (2 * s0_1)) 4096).bind fun t213 => (some (wrap64 (s0_0 + (wrap64 (a1 * t213))), t213, a1))) else ((spec_l1Most.f (wrap64 (Int.tdiv s0_1 2)) 1).bind fun t214 => (some (wrap64 (s0_0 + (wrap64 (a1 * t214))), t214, a1))))
def spec_tnStepper_take.T5 : Bool × List (List Nat × List Nat) := (true, [([], []), ([0], [0]), ([1], [1]), ([2], [2]), ([], []), ([], []), ([5], [5]), ([6], [6]), ([7], [7]), ([4, 8], [4, 8]), ([3, 9], [3, 9]), ([0, 0, 1, 2, 3, 4, 5, 6, 7, 8, 9, 10], [0]), ([11, 0, 1, 2, 3, 4, 5, 6, 7, 8, 9, 10], [11]), ([12, 10, 0, 1, 2, 3, 4, 5, 6, 7, 8, 9, 10], [10, 12])])
def spec_tnStepper_take.B5 : List Nat := [0, 1, 3, 7, 0, 0, 32, 96, 224, 496, 1023, 2047, 4095, 8191]
theorem spec_tnStepper_take.tab5 : rtab .any (opsOf Try.f374 5) = spec_tnStepper_take.T5 := by kernel_rfl
theorem spec_tnStepper_take.bits5 : waitsOk spec_tnStepper_take.T5.2 spec_tnStepper_take.B5 = true := by kernel_rfl
set_option maxHeartbeats 8000000 in
set_option maxRecDepth 100000 in
theorem spec_tnStepper_take.calls (g : Nat) (s0_0 : Int) (s0_1 : Int) (s0_2 : Int) (a1 : Int) (r1 : Int) (r2 : Int) (r3 : Int) (w0 w : World) (hI : IsS196 w0 w g s0_0 s0_1 s0_2) (hB : Below w0.heap.size w0 w) (h : spec_tnStepper_take.f s0_0 s0_1 s0_2 a1 = some (r1, r2, r3)) :
  Calls Try.prog 374 #[.pointer (some ⟨g, 0, none⟩), .int .i64 a1] w fun e w' => e = .returned (.tuple #[]) ∧ IsS196 w0 w' g r1 r2 r3 ∧ Below w0.heap.size w0 w' ∧ KeepBut w w' g none := by
 have HI0 := Aside0.mk hI
 have HK := Aside0.mk (KeepBut.refl w g none)
 have HL := Aside0.mk hB.size
 clear hI
 have HW0 := Aside0.mk hB.size
 have HB := Aside0.mk hB
 clear hB
 have H : (if s0_2 = 0 then (some (wrap64 (s0_0 + (wrap64 (a1 * s0_1))), s0_1, a1)) else (if a1 = s0_2 then ((spec_l1Least.f (wrap64 (2 * s0_1)) 4096).bind fun t213 => (some (wrap64 (s0_0 + (wrap64 (a1 * t213))), t213, a1))) else ((spec_l1Most.f (wrap64 (Int.tdiv s0_1 2)) 1).bind fun t214 => (some (wrap64 (s0_0 + (wrap64 (a1 * t214))), t214, a1))))) = some (r1, r2, r3) := h
 clear h
 by_cases c3 : s0_2 = 0
 ·rw [if_pos c3] at H
  have c3b0 : (s0_2 == 0) = true := beq_iff_eq.mpr c3
  have c3b1 : (s0_2 != 0) = false := bne_eq_false_iff_eq.mpr c3
  clear c3
  simp only [Option.some.injEq, Prod.mk.injEq] at H
  obtain ⟨rfl, rfl, rfl⟩ := H
  obtain ⟨HGz4, hgz4⟩ := HI0.out
  have hcz4_0 := cellS196_0 HGz4
  have hcz4_1 := cellS196_1 HGz4
  have hcz4_2 := cellS196_2 HGz4
  have hfz4_0 := blk_frozen HGz4 0
  have hfz4_1 := blk_frozen HGz4 1
  have hfz4_2 := blk_frozen HGz4 2
  clear HGz4 hgz4
  go_enter Try.func374, Try.ntmps374
  try go_wp2
  have n0_ : Aside0 (IsS196 w0 (w.setCell ⟨g, 2, none⟩ (.int .i64 a1)) g s0_0 s0_1 a1) := ⟨by repeat (first | (with_reducible first | exact HI0.out | apply IsS196.alloc | apply IsS196.drewN | apply IsS196.drew | apply IsS196.set_0 | apply IsS196.set_1 | apply IsS196.set_2) | exact HI0.out)⟩
  have n1_ : Aside0 (KeepBut w (w.setCell ⟨g, 2, none⟩ (.int .i64 a1)) g none) := ⟨by repeat (first | (with_reducible first | exact HK.out | apply KeepBut.set_ | apply keep_drewN | apply keep_drew | apply keep_alloc) | exact HK.out)⟩
  have n2_ : Aside0 (Below w0.heap.size w0 (w.setCell ⟨g, 2, none⟩ (.int .i64 a1))) := ⟨by repeat (first | (with_reducible first | exact HB.out | apply below_alloc | apply pw_below_drewN | apply below_drew1 | refine below_set ?_ (IsS196.ge HI0.out)) | exact HB.out)⟩
  (try clear HI0)
  (try clear HK)
  (try clear HB)
  generalize (w.setCell ⟨g, 2, none⟩ (.int .i64 a1)) = w5 at n0_ n1_ n2_ ⊢
  have HI0 := n0_
  have HK := n1_
  have HB := n2_
  clear n0_ n1_ n2_
  have n0_ := Aside0.mk (IsS196.drew HI0.out)
  have n1_ := Aside0.mk (keep_drew HK.out)
  have n2_ := Aside0.mk (below_drew1 HB.out)
  clear HI0
  clear HK
  clear HB
  have HI0 := n0_
  have HK := n1_
  have HB := n2_
  clear n0_ n1_ n2_
  refine start_ (n := 14) (S := fun w' => w'.cell? ⟨g, 0, none⟩ = some (.int .i64 s0_0) ∧ w'.cell? ⟨g, 1, none⟩ = some (.int .i64 s0_1) ∧ w'.cell? ⟨g, 2, none⟩ = some (.int .i64 a1)) (ds := [13]) x4a0 (by kernel_rfl) rfl rfl ⟨(by obtain ⟨HG_, hg_⟩ := HI0.out; exact cellS196_0 HG_), (by obtain ⟨HG_, hg_⟩ := HI0.out; exact cellS196_1 HG_), (by obtain ⟨HG_, hg_⟩ := HI0.out; exact cellS196_2 HG_)⟩ (fun hHeld => ?_); refine with_tabW spec_tnStepper_take.tab5 spec_tnStepper_take.bits5 (fun HT_ HW_ => ?_)
  generalize w5.drew = w6 at HI0 HK HB hHeld ⊢
  refine pure_ (i := 0) (N := some 39) (v := ?_) (a' := ?_) x4a1 rfl rfl (any_of HT_.out (by kernel_rfl)) (fun _ _ _ h => h) (Or.inl ⟨by rfl, ?_⟩) ?_ ?_; rotate_left; (intro w'; go_simp; with_reducible rfl); rotate_left; exact xE
  refine pure_ (i := 1) (N := some 40) (v := ?_) (a' := ?_) x4a2 rfl rfl (any_of HT_.out (by kernel_rfl)) (fun _ _ _ h => h) (Or.inl ⟨by rfl, ?_⟩) ?_ ?_; rotate_left; (intro w'; go_simp; with_reducible rfl); rotate_left; exact xE
  refine pure_ (i := 2) (N := some 41) (v := ?_) (a' := ?_) x4a3 rfl rfl (any_of HT_.out (by kernel_rfl)) (fun _ _ _ h => h) (Or.inl ⟨by rfl, ?_⟩) ?_ ?_; rotate_left; (intro w'; go_simp; with_reducible rfl); rotate_left; exact xE
  refine pure_ (i := 4) (N := some 43) (v := ?_) (a' := ?_) x4a4 rfl rfl (any_of HT_.out (by kernel_rfl)) (fun _ _ _ h => h) (Or.inl ⟨by rfl, ?_⟩) ?_ ?_; rotate_left; (intro w'; go_simp; with_reducible rfl); rotate_left; exact xE
  refine pure_ (i := 5) (N := some 44) (v := ?_) (a' := ?_) x4a5 rfl rfl (any_of HT_.out (by kernel_rfl)) (fun _ _ _ h => h) (Or.inl ⟨by rfl, ?_⟩) ?_ ?_; rotate_left; (intro w'; go_simp; with_reducible rfl); rotate_left; exact xE
  refine pure_ (i := 6) (N := some 45) (v := ?_) (a' := ?_) x4a6 rfl rfl (any_of HT_.out (by kernel_rfl)) (fun _ _ _ h => h) (Or.inl ⟨by rfl, ?_⟩) ?_ ?_; rotate_left; (intro w'; go_simp; with_reducible rfl); rotate_left; exact xE
  refine pure_ (i := 7) (N := some 46) (v := ?_) (a' := ?_) x4a7 rfl rfl (any_of HT_.out (by kernel_rfl)) (fun _ _ _ h => h) (Or.inl ⟨by rfl, ?_⟩) ?_ ?_; rotate_left; (intro w'; go_simp; with_reducible rfl); rotate_left; exact xE
  refine take_ (i := 3) (N := some 42) (v := ?_) (a' := ?_) x4a8 rfl rfl (take_ofW HT_.out HW_.out (by kernel_rfl)) (fun _ _ _ h => h) (Or.inl ⟨by rfl, ?_⟩) hHeld ?_ ?_
  rotate_left
  ·rintro w' ⟨s0, s1, s2⟩
   go_simp
   with_reducible rfl
  rotate_left
  ·exact xE
  refine take_ (i := 8) (N := some 47) (v := ?_) (a' := ?_) x4a9 rfl rfl (take_ofW HT_.out HW_.out (by kernel_rfl)) (fun _ _ _ h => h) (Or.inl ⟨by rfl, ?_⟩) hHeld ?_ ?_
  rotate_left
  ·rintro w' ⟨s0, s1, s2⟩
   go_simp
   with_reducible rfl
  rotate_left
  ·exact xE
  refine pure_ (i := 9) (N := some 48) (v := ?_) (a' := ?_) x4a10 rfl rfl (any_of HT_.out (by kernel_rfl)) (fun _ _ _ h => h) (Or.inl ⟨by rfl, ?_⟩) ?_ ?_; rotate_left; (intro w'; go_simp; with_reducible rfl); rotate_left; exact xE
  refine pure_ (i := 10) (N := some 49) (v := ?_) (a' := ?_) x4a11 rfl rfl (any_of HT_.out (by kernel_rfl)) (fun _ _ _ h => h) (Or.inl ⟨by rfl, ?_⟩) ?_ ?_; rotate_left; (intro w'; go_simp; with_reducible rfl); rotate_left; exact xE
  refine pure_ (i := 11) (N := some 50) (v := ?_) (a' := ?_) x4a12 rfl rfl (any_of HT_.out (by kernel_rfl)) (fun _ _ _ h => h) (Or.inl ⟨by rfl, ?_⟩) ?_ ?_; rotate_left; (intro w'; go_simp; with_reducible rfl); rotate_left; exact xE
  refine pure_ (i := 12) (N := some 51) (v := ?_) (a' := ?_) x4a13 rfl rfl (any_of HT_.out (by kernel_rfl)) (fun _ _ _ h => h) (Or.inl ⟨by rfl, ?_⟩) ?_ ?_; rotate_left; (intro w'; go_simp; with_reducible rfl); rotate_left; exact xE
  refine last_ (i := 13) (N := none) x4a14 rfl rfl (one_of HT_.out (by kernel_rfl)) (by decide) (fun K hK => ?_)
  obtain ⟨HG_, hg_⟩ := HI0.out
  have hfr_0 := blk_frozen HG_ 0
  have hfr_1 := blk_frozen HG_ 1
  have hfr_2 := blk_frozen HG_ 2
  clear HG_ hg_
  refine skip_ (w1 := ?_) (by rfl) rfl ?_ ?_
  rotate_left
  ·go_simp
   rfl
  refine hK.out _ _ ?_
  clear hK K
  refine done_ (done_of HT_.out (by kernel_rfl)) ?_
  try go_wp2
  first | go_end0 | ((try simp only [Exit.inBlock, Exit.then]); refine bodyPost_ret (results_none rfl _ _ _) rfl ?_)
  exact ⟨by first | rfl | (simp [errW_none, errW_some] <;> rfl) | (simp [*, errW_none, errW_some] <;> rfl), by repeat (first | (with_reducible first | exact HI0.out | apply IsS196.alloc | apply IsS196.drewN | apply IsS196.drew | apply IsS196.set_0 | apply IsS196.set_1 | apply IsS196.set_2) | exact HI0.out), by repeat (first | (with_reducible first | exact HB.out | apply below_alloc | apply pw_below_drewN | apply below_drew1 | refine below_set ?_ (IsS196.ge HI0.out)) | exact HB.out), by repeat (first | (with_reducible first | exact HK.out | apply KeepBut.set_ | apply keep_drewN | apply keep_drew | apply keep_alloc) | exact HK.out)⟩
 rw [if_neg c3] at H
 have c3b0 : (s0_2 == 0) = false := beq_eq_false_iff_ne.mpr c3
 have c3b1 : (s0_2 != 0) = true := bne_iff_ne.mpr c3
 by_cases c7 : a1 = s0_2
 rotate_left
 ·rw [if_neg c7] at H
  have c7b0 : (a1 == s0_2) = false := beq_eq_false_iff_ne.mpr c7
  have c7b1 : (a1 != s0_2) = true := bne_iff_ne.mpr c7
  replace H := Option.bind_eq_some_iff.mp H
  obtain ⟨t214, A140, H⟩ := H
  (try dsimp only at H)
  have A14 := Aside0.mk A140
  clear A140
  simp only [Option.some.injEq, Prod.mk.injEq] at H
  obtain ⟨rfl, rfl, rfl⟩ := H
  obtain ⟨HGz15, hgz15⟩ := HI0.out
  have hcz15_0 := cellS196_0 HGz15
  have hcz15_1 := cellS196_1 HGz15
  have hcz15_2 := cellS196_2 HGz15
  have hfz15_0 := blk_frozen HGz15 0
  have hfz15_1 := blk_frozen HGz15 1
  have hfz15_2 := blk_frozen HGz15 2
  clear HGz15 hgz15
  go_enter Try.func374, Try.ntmps374
  try go_wp2_with (first | ((with_reducible refine gate_callee (f := 271) rfl ?_); refine goesL_ (some 10) rfl rfl Try.func271 (by kernel_rfl) rfl #[.int .i64 (wrap64 (Int.tdiv s0_1 2)), .int .i64 1] rfl (by (try simp only [List.map_toArray, List.map_cons, List.map_nil]); first | done | rfl | (simp only [List.length_drop, List.length_take]; rfl)) ?_; (with_reducible refine (spec_l1Most.calls (wrap64 (Int.tdiv s0_1 2)) 1 t214 _ A14.out).mono ?_); rintro e w' ⟨rfl, ⟨nd, rfl⟩⟩; refine ⟨_, rfl, ?_⟩; generalize hq_ : World.drewN w nd = w16; have n0_ : Aside0 (IsS196 w0 w16 g s0_0 s0_1 s0_2) := ⟨by rw [← hq_]; exact (by repeat (first | (with_reducible first | exact HI0.out | apply IsS196.alloc | apply IsS196.drewN | apply IsS196.drew | apply IsS196.set_0 | apply IsS196.set_1 | apply IsS196.set_2) | exact HI0.out))⟩; have n1_ : Aside0 (KeepBut w w16 g none) := ⟨by rw [← hq_]; exact (by repeat (first | (with_reducible first | exact HK.out | apply KeepBut.set_ | apply keep_drewN | apply keep_drew | apply keep_alloc) | exact HK.out))⟩; have n2_ : Aside0 (Below w0.heap.size w0 w16) := ⟨by rw [← hq_]; exact (by repeat (first | (with_reducible first | exact HB.out | apply below_alloc | apply pw_below_drewN | apply below_drew1 | refine below_set ?_ (IsS196.ge HI0.out)) | exact HB.out))⟩; clear HI0 HK HB hq_; have HI0 := n0_; have HK := n1_; have HB := n2_; clear n0_ n1_ n2_; obtain ⟨HGz17, hgz17⟩ := HI0.out; have hcz17_0 := cellS196_0 HGz17; have hcz17_1 := cellS196_1 HGz17; have hcz17_2 := cellS196_2 HGz17; have hfz17_0 := blk_frozen HGz17 0; have hfz17_1 := blk_frozen HGz17 1; have hfz17_2 := blk_frozen HGz17 2; clear HGz17 hgz17))
  have n0_ : Aside0 (IsS196 w0 ((w16.setCell ⟨g, 1, none⟩ (.int .i64 t214)).setCell ⟨g, 2, none⟩ (.int .i64 a1)) g s0_0 t214 a1) := ⟨by repeat (first | (with_reducible first | exact HI0.out | apply IsS196.alloc | apply IsS196.drewN | apply IsS196.drew | apply IsS196.set_0 | apply IsS196.set_1 | apply IsS196.set_2) | exact HI0.out)⟩
  have n1_ : Aside0 (KeepBut w ((w16.setCell ⟨g, 1, none⟩ (.int .i64 t214)).setCell ⟨g, 2, none⟩ (.int .i64 a1)) g none) := ⟨by repeat (first | (with_reducible first | exact HK.out | apply KeepBut.set_ | apply keep_drewN | apply keep_drew | apply keep_alloc) | exact HK.out)⟩
  have n2_ : Aside0 (Below w0.heap.size w0 ((w16.setCell ⟨g, 1, none⟩ (.int .i64 t214)).setCell ⟨g, 2, none⟩ (.int .i64 a1))) := ⟨by repeat (first | (with_reducible first | exact HB.out | apply below_alloc | apply pw_below_drewN | apply below_drew1 | refine below_set ?_ (IsS196.ge HI0.out)) | exact HB.out)⟩
  (try clear HI0)
  (try clear HK)
  (try clear HB)
  generalize ((w16.setCell ⟨g, 1, none⟩ (.int .i64 t214)).setCell ⟨g, 2, none⟩ (.int .i64 a1)) = w18 at n0_ n1_ n2_ ⊢
  have HI0 := n0_
  have HK := n1_
  have HB := n2_
  clear n0_ n1_ n2_
  have n0_ := Aside0.mk (IsS196.drew HI0.out)
  have n1_ := Aside0.mk (keep_drew HK.out)
  have n2_ := Aside0.mk (below_drew1 HB.out)
  clear HI0
  clear HK
  clear HB
  have HI0 := n0_
  have HK := n1_
  have HB := n2_
  clear n0_ n1_ n2_
  refine start_ (n := 14) (S := fun w' => w'.cell? ⟨g, 0, none⟩ = some (.int .i64 s0_0) ∧ w'.cell? ⟨g, 1, none⟩ = some (.int .i64 t214) ∧ w'.cell? ⟨g, 2, none⟩ = some (.int .i64 a1)) (ds := [13]) x4a0 (by kernel_rfl) rfl rfl ⟨(by obtain ⟨HG_, hg_⟩ := HI0.out; exact cellS196_0 HG_), (by obtain ⟨HG_, hg_⟩ := HI0.out; exact cellS196_1 HG_), (by obtain ⟨HG_, hg_⟩ := HI0.out; exact cellS196_2 HG_)⟩ (fun hHeld => ?_); refine with_tabW spec_tnStepper_take.tab5 spec_tnStepper_take.bits5 (fun HT_ HW_ => ?_)
  generalize w18.drew = w19 at HI0 HK HB hHeld ⊢
  refine pure_ (i := 0) (N := some 39) (v := ?_) (a' := ?_) x4a1 rfl rfl (any_of HT_.out (by kernel_rfl)) (fun _ _ _ h => h) (Or.inl ⟨by rfl, ?_⟩) ?_ ?_; rotate_left; (intro w'; go_simp; with_reducible rfl); rotate_left; exact xE
  refine pure_ (i := 1) (N := some 40) (v := ?_) (a' := ?_) x4a2 rfl rfl (any_of HT_.out (by kernel_rfl)) (fun _ _ _ h => h) (Or.inl ⟨by rfl, ?_⟩) ?_ ?_; rotate_left; (intro w'; go_simp; with_reducible rfl); rotate_left; exact xE
  refine pure_ (i := 2) (N := some 41) (v := ?_) (a' := ?_) x4a3 rfl rfl (any_of HT_.out (by kernel_rfl)) (fun _ _ _ h => h) (Or.inl ⟨by rfl, ?_⟩) ?_ ?_; rotate_left; (intro w'; go_simp; with_reducible rfl); rotate_left; exact xE
  refine pure_ (i := 4) (N := some 43) (v := ?_) (a' := ?_) x4a4 rfl rfl (any_of HT_.out (by kernel_rfl)) (fun _ _ _ h => h) (Or.inl ⟨by rfl, ?_⟩) ?_ ?_; rotate_left; (intro w'; go_simp; with_reducible rfl); rotate_left; exact xE
  refine pure_ (i := 5) (N := some 44) (v := ?_) (a' := ?_) x4a5 rfl rfl (any_of HT_.out (by kernel_rfl)) (fun _ _ _ h => h) (Or.inl ⟨by rfl, ?_⟩) ?_ ?_; rotate_left; (intro w'; go_simp; with_reducible rfl); rotate_left; exact xE
  refine pure_ (i := 6) (N := some 45) (v := ?_) (a' := ?_) x4a6 rfl rfl (any_of HT_.out (by kernel_rfl)) (fun _ _ _ h => h) (Or.inl ⟨by rfl, ?_⟩) ?_ ?_; rotate_left; (intro w'; go_simp; with_reducible rfl); rotate_left; exact xE
  refine pure_ (i := 7) (N := some 46) (v := ?_) (a' := ?_) x4a7 rfl rfl (any_of HT_.out (by kernel_rfl)) (fun _ _ _ h => h) (Or.inl ⟨by rfl, ?_⟩) ?_ ?_; rotate_left; (intro w'; go_simp; with_reducible rfl); rotate_left; exact xE
  refine take_ (i := 3) (N := some 42) (v := ?_) (a' := ?_) x4a8 rfl rfl (take_ofW HT_.out HW_.out (by kernel_rfl)) (fun _ _ _ h => h) (Or.inl ⟨by rfl, ?_⟩) hHeld ?_ ?_
  rotate_left
  ·rintro w' ⟨s0, s1, s2⟩
   go_simp
   with_reducible rfl
  rotate_left
  ·exact xE
  refine take_ (i := 8) (N := some 47) (v := ?_) (a' := ?_) x4a9 rfl rfl (take_ofW HT_.out HW_.out (by kernel_rfl)) (fun _ _ _ h => h) (Or.inl ⟨by rfl, ?_⟩) hHeld ?_ ?_
  rotate_left
  ·rintro w' ⟨s0, s1, s2⟩
   go_simp
   with_reducible rfl
  rotate_left
  ·exact xE
  refine pure_ (i := 9) (N := some 48) (v := ?_) (a' := ?_) x4a10 rfl rfl (any_of HT_.out (by kernel_rfl)) (fun _ _ _ h => h) (Or.inl ⟨by rfl, ?_⟩) ?_ ?_; rotate_left; (intro w'; go_simp; with_reducible rfl); rotate_left; exact xE
  refine pure_ (i := 10) (N := some 49) (v := ?_) (a' := ?_) x4a11 rfl rfl (any_of HT_.out (by kernel_rfl)) (fun _ _ _ h => h) (Or.inl ⟨by rfl, ?_⟩) ?_ ?_; rotate_left; (intro w'; go_simp; with_reducible rfl); rotate_left; exact xE
  refine pure_ (i := 11) (N := some 50) (v := ?_) (a' := ?_) x4a12 rfl rfl (any_of HT_.out (by kernel_rfl)) (fun _ _ _ h => h) (Or.inl ⟨by rfl, ?_⟩) ?_ ?_; rotate_left; (intro w'; go_simp; with_reducible rfl); rotate_left; exact xE
  refine pure_ (i := 12) (N := some 51) (v := ?_) (a' := ?_) x4a13 rfl rfl (any_of HT_.out (by kernel_rfl)) (fun _ _ _ h => h) (Or.inl ⟨by rfl, ?_⟩) ?_ ?_; rotate_left; (intro w'; go_simp; with_reducible rfl); rotate_left; exact xE
  refine last_ (i := 13) (N := none) x4a14 rfl rfl (one_of HT_.out (by kernel_rfl)) (by decide) (fun K hK => ?_)
  obtain ⟨HG_, hg_⟩ := HI0.out
  have hfr_0 := blk_frozen HG_ 0
  have hfr_1 := blk_frozen HG_ 1
  have hfr_2 := blk_frozen HG_ 2
  clear HG_ hg_
  refine skip_ (w1 := ?_) (by rfl) rfl ?_ ?_
  rotate_left
  ·go_simp
   rfl
  refine hK.out _ _ ?_
  clear hK K
  refine done_ (done_of HT_.out (by kernel_rfl)) ?_
  try go_wp2
  first | go_end0 | ((try simp only [Exit.inBlock, Exit.then]); refine bodyPost_ret (results_none rfl _ _ _) rfl ?_)
  exact ⟨by first | rfl | (simp [errW_none, errW_some] <;> rfl) | (simp [*, errW_none, errW_some] <;> rfl), by repeat (first | (with_reducible first | exact HI0.out | apply IsS196.alloc | apply IsS196.drewN | apply IsS196.drew | apply IsS196.set_0 | apply IsS196.set_1 | apply IsS196.set_2) | exact HI0.out), by repeat (first | (with_reducible first | exact HB.out | apply below_alloc | apply pw_below_drewN | apply below_drew1 | refine below_set ?_ (IsS196.ge HI0.out)) | exact HB.out), by repeat (first | (with_reducible first | exact HK.out | apply KeepBut.set_ | apply keep_drewN | apply keep_drew | apply keep_alloc) | exact HK.out)⟩

 rw [if_pos c7] at H
 have c7b0 : (a1 == s0_2) = true := beq_iff_eq.mpr c7
 have c7b1 : (a1 != s0_2) = false := bne_eq_false_iff_eq.mpr c7
 clear c7
 replace H := Option.bind_eq_some_iff.mp H
 obtain ⟨t213, A80, H⟩ := H
 (try dsimp only at H)
 have A8 := Aside0.mk A80
 clear A80
 simp only [Option.some.injEq, Prod.mk.injEq] at H
 obtain ⟨rfl, rfl, rfl⟩ := H
 obtain ⟨HGz9, hgz9⟩ := HI0.out
 have hcz9_0 := cellS196_0 HGz9
 have hcz9_1 := cellS196_1 HGz9
 have hcz9_2 := cellS196_2 HGz9
 have hfz9_0 := blk_frozen HGz9 0
 have hfz9_1 := blk_frozen HGz9 1
 have hfz9_2 := blk_frozen HGz9 2
 clear HGz9 hgz9
 go_enter Try.func374, Try.ntmps374
 try go_wp2_with (first | ((with_reducible refine gate_callee (f := 270) rfl ?_); refine goesL_ (some 32) rfl rfl Try.func270 (by kernel_rfl) rfl #[.int .i64 (wrap64 (2 * s0_1)), .int .i64 4096] rfl (by (try simp only [List.map_toArray, List.map_cons, List.map_nil]); first | done | rfl | (simp only [List.length_drop, List.length_take]; rfl)) ?_; (with_reducible refine (spec_l1Least.calls (wrap64 (2 * s0_1)) 4096 t213 _ A8.out).mono ?_); rintro e w' ⟨rfl, ⟨nd, rfl⟩⟩; refine ⟨_, rfl, ?_⟩; generalize hq_ : World.drewN w nd = w10; have n0_ : Aside0 (IsS196 w0 w10 g s0_0 s0_1 s0_2) := ⟨by rw [← hq_]; exact (by repeat (first | (with_reducible first | exact HI0.out | apply IsS196.alloc | apply IsS196.drewN | apply IsS196.drew | apply IsS196.set_0 | apply IsS196.set_1 | apply IsS196.set_2) | exact HI0.out))⟩; have n1_ : Aside0 (KeepBut w w10 g none) := ⟨by rw [← hq_]; exact (by repeat (first | (with_reducible first | exact HK.out | apply KeepBut.set_ | apply keep_drewN | apply keep_drew | apply keep_alloc) | exact HK.out))⟩; have n2_ : Aside0 (Below w0.heap.size w0 w10) := ⟨by rw [← hq_]; exact (by repeat (first | (with_reducible first | exact HB.out | apply below_alloc | apply pw_below_drewN | apply below_drew1 | refine below_set ?_ (IsS196.ge HI0.out)) | exact HB.out))⟩; clear HI0 HK HB hq_; have HI0 := n0_; have HK := n1_; have HB := n2_; clear n0_ n1_ n2_; obtain ⟨HGz11, hgz11⟩ := HI0.out; have hcz11_0 := cellS196_0 HGz11; have hcz11_1 := cellS196_1 HGz11; have hcz11_2 := cellS196_2 HGz11; have hfz11_0 := blk_frozen HGz11 0; have hfz11_1 := blk_frozen HGz11 1; have hfz11_2 := blk_frozen HGz11 2; clear HGz11 hgz11))
 have n0_ : Aside0 (IsS196 w0 ((w10.setCell ⟨g, 1, none⟩ (.int .i64 t213)).setCell ⟨g, 2, none⟩ (.int .i64 a1)) g s0_0 t213 a1) := ⟨by repeat (first | (with_reducible first | exact HI0.out | apply IsS196.alloc | apply IsS196.drewN | apply IsS196.drew | apply IsS196.set_0 | apply IsS196.set_1 | apply IsS196.set_2) | exact HI0.out)⟩
 have n1_ : Aside0 (KeepBut w ((w10.setCell ⟨g, 1, none⟩ (.int .i64 t213)).setCell ⟨g, 2, none⟩ (.int .i64 a1)) g none) := ⟨by repeat (first | (with_reducible first | exact HK.out | apply KeepBut.set_ | apply keep_drewN | apply keep_drew | apply keep_alloc) | exact HK.out)⟩
 have n2_ : Aside0 (Below w0.heap.size w0 ((w10.setCell ⟨g, 1, none⟩ (.int .i64 t213)).setCell ⟨g, 2, none⟩ (.int .i64 a1))) := ⟨by repeat (first | (with_reducible first | exact HB.out | apply below_alloc | apply pw_below_drewN | apply below_drew1 | refine below_set ?_ (IsS196.ge HI0.out)) | exact HB.out)⟩
 (try clear HI0)
 (try clear HK)
 (try clear HB)
 generalize ((w10.setCell ⟨g, 1, none⟩ (.int .i64 t213)).setCell ⟨g, 2, none⟩ (.int .i64 a1)) = w12 at n0_ n1_ n2_ ⊢
 have HI0 := n0_
 have HK := n1_
 have HB := n2_
 clear n0_ n1_ n2_
 have n0_ := Aside0.mk (IsS196.drew HI0.out)
 have n1_ := Aside0.mk (keep_drew HK.out)
 have n2_ := Aside0.mk (below_drew1 HB.out)
 clear HI0
 clear HK
 clear HB
 have HI0 := n0_
 have HK := n1_
 have HB := n2_
 clear n0_ n1_ n2_
 refine start_ (n := 14) (S := fun w' => w'.cell? ⟨g, 0, none⟩ = some (.int .i64 s0_0) ∧ w'.cell? ⟨g, 1, none⟩ = some (.int .i64 t213) ∧ w'.cell? ⟨g, 2, none⟩ = some (.int .i64 a1)) (ds := [13]) x4a0 (by kernel_rfl) rfl rfl ⟨(by obtain ⟨HG_, hg_⟩ := HI0.out; exact cellS196_0 HG_), (by obtain ⟨HG_, hg_⟩ := HI0.out; exact cellS196_1 HG_), (by obtain ⟨HG_, hg_⟩ := HI0.out; exact cellS196_2 HG_)⟩ (fun hHeld => ?_); refine with_tabW spec_tnStepper_take.tab5 spec_tnStepper_take.bits5 (fun HT_ HW_ => ?_)
 generalize w12.drew = w13 at HI0 HK HB hHeld ⊢
 refine pure_ (i := 0) (N := some 39) (v := ?_) (a' := ?_) x4a1 rfl rfl (any_of HT_.out (by kernel_rfl)) (fun _ _ _ h => h) (Or.inl ⟨by rfl, ?_⟩) ?_ ?_; rotate_left; (intro w'; go_simp; with_reducible rfl); rotate_left; exact xE
 refine pure_ (i := 1) (N := some 40) (v := ?_) (a' := ?_) x4a2 rfl rfl (any_of HT_.out (by kernel_rfl)) (fun _ _ _ h => h) (Or.inl ⟨by rfl, ?_⟩) ?_ ?_; rotate_left; (intro w'; go_simp; with_reducible rfl); rotate_left; exact xE
 refine pure_ (i := 2) (N := some 41) (v := ?_) (a' := ?_) x4a3 rfl rfl (any_of HT_.out (by kernel_rfl)) (fun _ _ _ h => h) (Or.inl ⟨by rfl, ?_⟩) ?_ ?_; rotate_left; (intro w'; go_simp; with_reducible rfl); rotate_left; exact xE
 refine pure_ (i := 4) (N := some 43) (v := ?_) (a' := ?_) x4a4 rfl rfl (any_of HT_.out (by kernel_rfl)) (fun _ _ _ h => h) (Or.inl ⟨by rfl, ?_⟩) ?_ ?_; rotate_left; (intro w'; go_simp; with_reducible rfl); rotate_left; exact xE
 refine pure_ (i := 5) (N := some 44) (v := ?_) (a' := ?_) x4a5 rfl rfl (any_of HT_.out (by kernel_rfl)) (fun _ _ _ h => h) (Or.inl ⟨by rfl, ?_⟩) ?_ ?_; rotate_left; (intro w'; go_simp; with_reducible rfl); rotate_left; exact xE
 refine pure_ (i := 6) (N := some 45) (v := ?_) (a' := ?_) x4a6 rfl rfl (any_of HT_.out (by kernel_rfl)) (fun _ _ _ h => h) (Or.inl ⟨by rfl, ?_⟩) ?_ ?_; rotate_left; (intro w'; go_simp; with_reducible rfl); rotate_left; exact xE
 refine pure_ (i := 7) (N := some 46) (v := ?_) (a' := ?_) x4a7 rfl rfl (any_of HT_.out (by kernel_rfl)) (fun _ _ _ h => h) (Or.inl ⟨by rfl, ?_⟩) ?_ ?_; rotate_left; (intro w'; go_simp; with_reducible rfl); rotate_left; exact xE
 refine take_ (i := 3) (N := some 42) (v := ?_) (a' := ?_) x4a8 rfl rfl (take_ofW HT_.out HW_.out (by kernel_rfl)) (fun _ _ _ h => h) (Or.inl ⟨by rfl, ?_⟩) hHeld ?_ ?_
 rotate_left
 ·rintro w' ⟨s0, s1, s2⟩
  go_simp
  with_reducible rfl
 rotate_left
 ·exact xE
 refine take_ (i := 8) (N := some 47) (v := ?_) (a' := ?_) x4a9 rfl rfl (take_ofW HT_.out HW_.out (by kernel_rfl)) (fun _ _ _ h => h) (Or.inl ⟨by rfl, ?_⟩) hHeld ?_ ?_
 rotate_left
 ·rintro w' ⟨s0, s1, s2⟩
  go_simp
  with_reducible rfl
 rotate_left
 ·exact xE
 refine pure_ (i := 9) (N := some 48) (v := ?_) (a' := ?_) x4a10 rfl rfl (any_of HT_.out (by kernel_rfl)) (fun _ _ _ h => h) (Or.inl ⟨by rfl, ?_⟩) ?_ ?_; rotate_left; (intro w'; go_simp; with_reducible rfl); rotate_left; exact xE
 refine pure_ (i := 10) (N := some 49) (v := ?_) (a' := ?_) x4a11 rfl rfl (any_of HT_.out (by kernel_rfl)) (fun _ _ _ h => h) (Or.inl ⟨by rfl, ?_⟩) ?_ ?_; rotate_left; (intro w'; go_simp; with_reducible rfl); rotate_left; exact xE
 refine pure_ (i := 11) (N := some 50) (v := ?_) (a' := ?_) x4a12 rfl rfl (any_of HT_.out (by kernel_rfl)) (fun _ _ _ h => h) (Or.inl ⟨by rfl, ?_⟩) ?_ ?_; rotate_left; (intro w'; go_simp; with_reducible rfl); rotate_left; exact xE
 refine pure_ (i := 12) (N := some 51) (v := ?_) (a' := ?_) x4a13 rfl rfl (any_of HT_.out (by kernel_rfl)) (fun _ _ _ h => h) (Or.inl ⟨by rfl, ?_⟩) ?_ ?_; rotate_left; (intro w'; go_simp; with_reducible rfl); rotate_left; exact xE
 refine last_ (i := 13) (N := none) x4a14 rfl rfl (one_of HT_.out (by kernel_rfl)) (by decide) (fun K hK => ?_)
 obtain ⟨HG_, hg_⟩ := HI0.out
 have hfr_0 := blk_frozen HG_ 0
 have hfr_1 := blk_frozen HG_ 1
 have hfr_2 := blk_frozen HG_ 2
 clear HG_ hg_
 refine skip_ (w1 := ?_) (by rfl) rfl ?_ ?_
 rotate_left
 ·go_simp
  rfl
 refine hK.out _ _ ?_
 clear hK K
 refine done_ (done_of HT_.out (by kernel_rfl)) ?_
 try go_wp2
 first | go_end0 | ((try simp only [Exit.inBlock, Exit.then]); refine bodyPost_ret (results_none rfl _ _ _) rfl ?_)
 exact ⟨by first | rfl | (simp [errW_none, errW_some] <;> rfl) | (simp [*, errW_none, errW_some] <;> rfl), by repeat (first | (with_reducible first | exact HI0.out | apply IsS196.alloc | apply IsS196.drewN | apply IsS196.drew | apply IsS196.set_0 | apply IsS196.set_1 | apply IsS196.set_2) | exact HI0.out), by repeat (first | (with_reducible first | exact HB.out | apply below_alloc | apply pw_below_drewN | apply below_drew1 | refine below_set ?_ (IsS196.ge HI0.out)) | exact HB.out), by repeat (first | (with_reducible first | exact HK.out | apply KeepBut.set_ | apply keep_drewN | apply keep_drew | apply keep_alloc) | exact HK.out)⟩
/-! ### spec_tnCode: function 238 -/
def spec_tnCode.l0 : Nat → List Int → List Int → List Int → Int → Int → Int → Int → Int → Option (List Int × List Int)
 | 0, _, _, _, _, _, _, _, _ => none
 | k + 1, x7, x8, x14, x15, x16, x216000, x216001, x216002 => if x16 < x15 then (if 0 ≤ x16 then (if x16 < (x14.length : Int) then ((spec_tnBit.f (rd x14 x16) x216000).bind fun t217 => ((spec_tnStepper_take.f x216000 x216001 x216002 t217).bind fun bt218 => (if x7.length < 17592186044416 then (if x8.length < 17592186044416 then (spec_tnCode.l0 k (x7 ++ [t217]) (x8 ++ [bt218.1]) x14 x15 (wrap64 (x16 + 1)) bt218.1 bt218.2.1 bt218.2.2) else (none)) else (none)))) else (none)) else (none)) else (some (x7, x8))
def spec_tnCode.f (k : Nat) (l0 : List Int) (a1 : Int) : Option (List Int × List Int) := spec_tnCode.l0 k ([] : List Int) ([] : List Int) l0 (l0.length : Int) 0 0 a1 0
theorem spec_tnCode.mono_l : ∀ k, (∀ y0 y1 y2 y3 y4 y5 y6 y7, LeO (spec_tnCode.l0 k y0 y1 y2 y3 y4 y5 y6 y7) (spec_tnCode.l0 (k + 1) y0 y1 y2 y3 y4 y5 y6 y7))
 | 0 => fun _ _ _ _ _ _ _ _ r h => by simp [spec_tnCode.l0] at h
 | k + 1 => by
  have ih0 := spec_tnCode.mono_l k
  ·intro y0 y1 y2 y3 y4 y5 y6 y7
   unfold spec_tnCode.l0
   repeat' first
   | (with_reducible exact ih0 _ _ _ _ _ _ _ _)
   | (with_reducible exact LeO.refl _)
   | (with_reducible exact LeO.none _)
   | (with_reducible refine LeO.ite ?_ ?_)
   | (with_reducible refine LeO.bind ?_ (fun _ => ?_))
   | exact ih0 _ _ _ _ _ _ _ _
   | exact LeO.none _
   | refine LeO.ite ?_ ?_
   | refine LeO.bind ?_ (fun _ => ?_)
theorem spec_tnCode.mono : ∀ a0 a1 k, LeO (spec_tnCode.f k a0 a1) (spec_tnCode.f (k + 1) a0 a1) := by
 intro a0 a1 k
 have ih0 := spec_tnCode.mono_l k
 unfold spec_tnCode.f
 repeat' first
   | (with_reducible exact ih0 _ _ _ _ _ _ _ _)
   | (with_reducible exact LeO.refl _)
   | (with_reducible exact LeO.none _)
   | (with_reducible refine LeO.ite ?_ ?_)
   | (with_reducible refine LeO.bind ?_ (fun _ => ?_))
   | exact ih0 _ _ _ _ _ _ _ _
   | exact LeO.none _
   | refine LeO.ite ?_ ?_
   | refine LeO.bind ?_ (fun _ => ?_)
set_option maxHeartbeats 8000000 in
set_option maxRecDepth 100000 in
theorem spec_tnCode.calls (k : Nat) (A0 : Option Addr) (c0 : Nat) (l0 : List Int) (a1 : Int) (r1 : List Int) (r2 : List Int) (w : World) (hr0 : Kd.C (Kd.int .i64) w A0 l0.length l0) (hc0 : l0.length ≤ c0) (h : spec_tnCode.f k l0 a1 = some (r1, r2)) :
  Calls Try.prog 238 #[.slice A0 l0.length c0, .int .i64 a1] w fun e w' => ∃ v0_ v1_ : Value, e = .returned (.tuple #[v0_, v1_]) ∧ Kd.R (Kd.int .i64) 3 w' w.heap.size (fun k_ => some k_ ≠ (v1_ : Value).ownBlock) v0_ r1 ∧ Kd.R (Kd.int .i64) 3 w' w.heap.size (fun k_ => some k_ ≠ (v0_ : Value).ownBlock) v1_ r2 ∧ Below w.heap.size w w' := by
 have hu196 := Try.underlying196
 have HR0 := Aside0.mk hr0
 have HC0 := Aside0.mk hc0
 clear hr0 hc0
 have HB := Aside0.mk (Below.refl w.heap.size w)
 have H : (spec_tnCode.l0 k ([] : List Int) ([] : List Int) l0 (l0.length : Int) 0 0 a1 0) = some (r1, r2) := h
 clear h
 have H' := Aside0.mk H
 clear H
 go_enter Try.func238, Try.ntmps238
 go_wp2_with (first | ((with_reducible refine gate_dst (N := 6) rfl ?_); refine box_event ?hg (N := 6) ?hd (cs := #[.int .i64 0, .int .i64 0, .int .i64 0]) (t := 196) ?hr ?_; (case hd => rfl); (case hg => rfl); (case hr => first | (go_simp; done) | (go_simp; rfl)); intro gb215 hg w3 hbox hb; have n0_ := Aside0.mk (below_step (xB HB.out) hb); have n1_ := Aside0.mk ((show IsS196 w _ gb215 0 0 0 from ⟨hbox, (by rw [hg]; exact (below_size (xB HB.out)) : w.heap.size ≤ gb215)⟩)); clear HB; have HB := n0_; have HI215 := n1_; clear n0_ n1_; clear hb hbox hg; obtain ⟨HGz4, hgz4⟩ := HI215.out; have hcz4_0 := cellS196_0 HGz4; have hcz4_1 := cellS196_1 HGz4; have hcz4_2 := cellS196_2 HGz4; have hfz4_0 := blk_frozen HGz4 0; have hfz4_1 := blk_frozen HGz4 1; have hfz4_2 := blk_frozen HGz4 2; clear HGz4 hgz4))
 go_loopg [7, 8, 16] k (fun kq v7 v8 v16 w' => ∃ (x7_1 : List Int) (x8_1 : List Int) (x16_1 : Int) (x216000_1 : Int) (x216001_1 : Int) (x216002_1 : Int), v16 = .int .i64 x16_1 ∧ Aside0 (spec_tnCode.l0 kq x7_1 x8_1 l0 (l0.length : Int) x16_1 x216000_1 x216001_1 x216002_1 = some (r1, r2)) ∧ Aside0 (kq ≤ k) ∧ Aside0 (Kd.R (Kd.int .i64) 3 w' w.heap.size (fun k_ => some k_ ≠ (v8 : Value).ownBlock) v7 x7_1) ∧ Aside0 (Kd.R (Kd.int .i64) 3 w' w.heap.size (fun k_ => some k_ ≠ (v7 : Value).ownBlock) v8 x8_1) ∧ Aside0 (IsS196 w w' gb215 x216000_1 x216001_1 x216002_1) ∧ Aside0 (Below w.heap.size w w'))
 case atStart => exact ⟨(([] : List Int)), (([] : List Int)), (0), (0), (a1), (0), (by first | rfl | (simp; done) | (simp [*]; done)), H', ⟨Nat.le_refl _⟩, ⟨by first | exact Kd.R_nil _ _ _ _ _ | exact Kd.N_nil _ _ _ _ _ | exact Kd.V_nil _ _ _ _ _ | exact Kd.Q_nil _ _ _ _ _ | exact Kd.S_nil _ _ _ _ _⟩, ⟨by first | exact Kd.R_nil _ _ _ _ _ | exact Kd.N_nil _ _ _ _ _ | exact Kd.V_nil _ _ _ _ _ | exact Kd.Q_nil _ _ _ _ _ | exact Kd.S_nil _ _ _ _ _⟩, ⟨by repeat (first | (with_reducible first | exact HI215.out | apply IsS196.alloc | apply IsS196.drewN | apply IsS196.drew | apply IsS196.set_0 | apply IsS196.set_1 | apply IsS196.set_2) | exact HI215.out)⟩, ⟨by repeat (first | (with_reducible first | exact HB.out | apply below_alloc | apply pw_below_drewN | apply below_drew1 | refine below_set ?_ (IsS196.ge HI215.out)) | exact HB.out)⟩⟩
 case round =>
  clear H'
  try clear hcz4_0
  try clear hcz4_1
  try clear hcz4_2
  try clear hfz4_0
  try clear hfz4_1
  try clear hfz4_2
  obtain ⟨x7_1, x8_1, x16_1, x216000_1, x216001_1, x216002_1, rfl, HA, HK1, HO_7, HO_8, HI215, HB⟩ := hrel
  cases gk with
  | zero => exact absurd HA.out (by simp [spec_tnCode.l0])
  | succ k1 =>
   have H := HA.out
   clear HA
   simp only [spec_tnCode.l0] at H
   by_cases c5 : x16_1 < (l0.length : Int)
   rotate_left
   ·rw [if_neg c5] at H
    have c5b0 : decide (x16_1 < (l0.length : Int)) = false := decide_eq_false c5
    clear c5
    simp only [Option.some.injEq, Prod.mk.injEq] at H
    obtain ⟨rfl, rfl⟩ := H
    go_wp2
    go_ret2
    exact ⟨_, _, by first | rfl | (simp [errW_none, errW_some] <;> rfl) | (simp [*, errW_none, errW_some] <;> rfl), xR HO_7.out, xR HO_8.out, by repeat (first | (with_reducible first | exact HB.out | apply below_alloc | apply pw_below_drewN | apply below_drew1 | refine below_set ?_ (IsS196.ge HI215.out)) | exact HB.out)⟩

   rw [if_pos c5] at H
   have c5b0 : decide (x16_1 < (l0.length : Int)) = true := decide_eq_true c5
   clear c5
   by_cases c6 : 0 ≤ x16_1
   rotate_left
   ·rw [if_neg c6] at H
    exact absurd H (by simp)
   rw [if_pos c6] at H
   have c6b0 : decide (0 ≤ x16_1) = true := decide_eq_true c6
   clear c6
   by_cases c7 : x16_1 < (l0.length : Int)
   rotate_left
   ·rw [if_neg c7] at H
    exact absurd H (by simp)
   rw [if_pos c7] at H
   have c7b0 : decide (x16_1 < (l0.length : Int)) = true := decide_eq_true c7
   clear c7
   replace H := Option.bind_eq_some_iff.mp H
   obtain ⟨t217, A80, H⟩ := H
   (try dsimp only at H)
   have A8 := Aside0.mk A80
   clear A80
   replace H := Option.bind_eq_some_iff.mp H
   obtain ⟨⟨t218, t219, t220⟩, A90, H⟩ := H
   (try dsimp only at H)
   have A9 := Aside0.mk A90
   clear A90
   by_cases c10 : x7_1.length < 17592186044416
   rotate_left
   ·rw [if_neg c10] at H
    exact absurd H (by simp)
   rw [if_pos c10] at H
   have LMc10 := Aside0.mk c10
   clear c10
   obtain ⟨y221, hy221⟩ : ∃ y_ : List Int, y_ = (x7_1 ++ [t217]) := ⟨_, rfl⟩
   replace H : (if x8_1.length < 17592186044416 then (spec_tnCode.l0 k1 y221 (x8_1 ++ [t218]) l0 (l0.length : Int) (wrap64 (x16_1 + 1)) t218 t219 t220) else (none)) = some (r1, r2) := by first | (rw [hy221]; with_reducible exact H) | (have H2_ := (Option.bind_some _ _).symm.trans H; rw [hy221]; with_reducible exact H2_) | (have H2_ := (Option.bind_some _ _).symm.trans H; with_reducible exact H2_) | with_reducible exact H | (rw [hy221]; exact H) | exact H
   have Ny221 := Aside0.mk hy221
   clear hy221
   by_cases c11 : x8_1.length < 17592186044416
   rotate_left
   ·rw [if_neg c11] at H
    exact absurd H (by simp)
   rw [if_pos c11] at H
   have LMc11 := Aside0.mk c11
   clear c11
   obtain ⟨y224, hy224⟩ : ∃ y_ : List Int, y_ = (x8_1 ++ [t218]) := ⟨_, rfl⟩
   replace H : (spec_tnCode.l0 k1 y221 y224 l0 (l0.length : Int) (wrap64 (x16_1 + 1)) t218 t219 t220) = some (r1, r2) := by first | (rw [hy224]; with_reducible exact H) | (have H2_ := (Option.bind_some _ _).symm.trans H; rw [hy224]; with_reducible exact H2_) | (have H2_ := (Option.bind_some _ _).symm.trans H; with_reducible exact H2_) | with_reducible exact H | (rw [hy224]; exact H) | exact H
   have Ny224 := Aside0.mk hy224
   clear hy224
   have H' := Aside0.mk H
   clear H
   have p216 : 0 ≤ (x16_1 : Int) := of_decide_eq_true (by first | (with_reducible assumption) | assumption)
   have q216 : x16_1 < (l0.length : Int) := of_decide_eq_true (by first | (with_reducible assumption) | assumption)
   obtain ⟨ad216, e216, hx216_0⟩ := Kd.at_int HR0.out x16_1 p216 q216
   cases e216
   replace hx216_0 := (HB.out.cell (World.block_lt_of_cell? w _ hx216_0)).trans hx216_0
   replace p216 := eq_true p216
   replace q216 := eq_true q216
   obtain ⟨HGz12, hgz12⟩ := HI215.out
   have hcz12_0 := cellS196_0 HGz12
   have hcz12_1 := cellS196_1 HGz12
   have hcz12_2 := cellS196_2 HGz12
   have hfz12_0 := blk_frozen HGz12 0
   have hfz12_1 := blk_frozen HGz12 1
   have hfz12_2 := blk_frozen HGz12 2
   clear HGz12 hgz12
   go_wp2_with (first | ((with_reducible refine gate_callee (f := 244) rfl ?_); refine goesL_ (some 23) rfl rfl Try.func244 (by kernel_rfl) rfl #[.int .i64 (rd l0 x16_1), .int .i64 x216000_1] rfl (by (try simp only [List.map_toArray, List.map_cons, List.map_nil]); first | done | rfl | (simp only [List.length_drop, List.length_take]; rfl)) ?_; (with_reducible refine (spec_tnBit.calls (rd l0 x16_1) x216000_1 t217 _ A8.out).mono ?_); rintro e w' ⟨rfl, ⟨nd, rfl⟩⟩; refine ⟨_, rfl, ?_⟩) | ((with_reducible refine gate_callee (f := 374) rfl ?_); refine goesL_ (some 25) rfl rfl Try.func374 (by kernel_rfl) rfl #[.pointer (some ⟨gb215, 0, none⟩), .int .i64 t217] rfl (by (try simp only [List.map_toArray, List.map_cons, List.map_nil]); first | done | rfl | (simp only [List.length_drop, List.length_take]; rfl)) ?_; (with_reducible refine (spec_tnStepper_take.calls gb215 x216000_1 x216001_1 x216002_1 t217 t218 t219 t220 w _ ?side1 ?side2 A9.out).mono ?_); (case side1 => repeat (first | (with_reducible first | exact HI215.out | apply IsS196.alloc | apply IsS196.drewN | apply IsS196.drew | apply IsS196.set_0 | apply IsS196.set_1 | apply IsS196.set_2) | exact HI215.out)); (case side2 => repeat (first | (with_reducible first | exact HB.out | apply below_alloc | apply pw_below_drewN | apply below_drew1 | refine below_set ?_ (IsS196.ge HI215.out)) | exact HB.out)); rintro e w13 ⟨rfl, hi, hb, hk⟩; refine ⟨_, rfl, ?_⟩; have n0_ := Aside0.mk (Kd.R_mono (Kd.R_keep (IsS196.apart (show IsS196 w _ gb215 x216000_1 x216001_1 x216002_1 from by repeat (first | (with_reducible first | exact HI215.out | apply IsS196.alloc | apply IsS196.drewN | apply IsS196.drew | apply IsS196.set_0 | apply IsS196.set_1 | apply IsS196.set_2) | exact HI215.out)) (xR HO_7.out) (by decide)) hk (fun _ h => h.2)) (fun _ h => h.1)); have n1_ := Aside0.mk (Kd.R_mono (Kd.R_keep (IsS196.apart (show IsS196 w _ gb215 x216000_1 x216001_1 x216002_1 from by repeat (first | (with_reducible first | exact HI215.out | apply IsS196.alloc | apply IsS196.drewN | apply IsS196.drew | apply IsS196.set_0 | apply IsS196.set_1 | apply IsS196.set_2) | exact HI215.out)) (xR HO_8.out) (by decide)) hk (fun _ h => h.2)) (fun _ h => h.1)); have n2_ := Aside0.mk (hb); have n3_ := Aside0.mk (hi); clear HO_7; clear HO_8; clear HB; clear HI215; have HO_7 := n0_; have HO_8 := n1_; have HB := n2_; have HI215 := n3_; clear n0_ n1_ n2_ n3_; (try clear hb); (try clear hb2); (try clear hk); (try clear hi)) | ((with_reducible refine gate_builtin (b := .append) (xs := #[.tmp 26, .tmp 28]) rfl ?_); at_builtin; refine Kd.R_append (Kd.int .i64) (w0 := w) w.heap.size rfl (.tmp 26) (.tmp 28) 24 3 (.int .i64 0) 8 rfl Try.underlying24 info3 rfl (by decide) (by omega) u7 x7_1 t217 [.int .i64 t217] (fun k_ => some k_ ≠ (u8 : Value).ownBlock) (fun _ => False) rfl rfl ?aP (fun _ hk => hk.elim) ?aF ?aO ?aB ?aS ?aL ?_; (case aP => exact rfl); (case aB => exact (by repeat (first | (with_reducible first | exact HB.out | apply below_alloc | apply pw_below_drewN | apply below_drew1 | refine below_set ?_ (IsS196.ge HI215.out)) | exact HB.out))); (case aF => exact (fun k_ hk => Kd.fresh' (Kd.R_lt (xR HO_8.out)) k_ hk)); (case aO => exact (xR HO_7.out)); (case aS => exact (below_size (by repeat (first | (with_reducible first | exact HB.out | apply below_alloc | apply pw_below_drewN | apply below_drew1 | refine below_set ?_ (IsS196.ge HI215.out)) | exact HB.out)))); (case aL => have := LMc10.out; omega); intro v222 w14 ho hb hg hat; rw [← Ny221.out] at ho; have n0_ := Aside0.mk (Kd.R_after (ok := (fun _ => True)) (by (with_reducible repeat (first | apply Kd.R_alloc | apply Kd.R_drewN | apply Kd.R_drew)); exact Kd.R_mono HO_8.out (fun _ hk => ⟨trivial, hk⟩)) hg hat); have n1_ := Aside0.mk (IsS196.grown (by repeat (first | (with_reducible first | exact HI215.out | apply IsS196.alloc | apply IsS196.drewN | apply IsS196.drew | apply IsS196.set_0 | apply IsS196.set_1 | apply IsS196.set_2) | exact HI215.out)) hg (IsS196.own_ne HI215.out HO_7.out (by decide))); have n2_ := Aside0.mk (hb); have n3_ := Aside0.mk (ho); clear HO_8; clear HI215; clear HB; clear HO_7; have HO_8 := n0_; have HI215 := n1_; have HB := n2_; have HO223 := n3_; clear n0_ n1_ n2_ n3_; clear ho hb hg hat; obtain ⟨HGz15, hgz15⟩ := HI215.out; have hcz15_0 := cellS196_0 HGz15; have hcz15_1 := cellS196_1 HGz15; have hcz15_2 := cellS196_2 HGz15; have hfz15_0 := blk_frozen HGz15 0; have hfz15_1 := blk_frozen HGz15 1; have hfz15_2 := blk_frozen HGz15 2; clear HGz15 hgz15) | ((with_reducible refine gate_builtin (b := .append) (xs := #[.tmp 30, .tmp 33]) rfl ?_); at_builtin; refine Kd.R_append (Kd.int .i64) (w0 := w) w.heap.size rfl (.tmp 30) (.tmp 33) 24 3 (.int .i64 0) 8 rfl Try.underlying24 info3 rfl (by decide) (by omega) u8 x8_1 t218 [.int .i64 t218] (fun k_ => some k_ ≠ (v222 : Value).ownBlock) (fun _ => False) rfl rfl ?aP (fun _ hk => hk.elim) ?aF ?aO ?aB ?aS ?aL ?_; (case aP => exact rfl); (case aB => exact (by repeat (first | (with_reducible first | exact HB.out | apply below_alloc | apply pw_below_drewN | apply below_drew1 | refine below_set ?_ (IsS196.ge HI215.out)) | exact HB.out))); (case aF => exact (fun k_ hk => Kd.fresh' (Kd.R_lt (xR HO223.out)) k_ hk)); (case aO => exact (by (with_reducible repeat (first | apply Kd.R_alloc | apply Kd.R_drewN | apply Kd.R_drew)); exact Kd.R_mono HO_8.out (fun _ hk => hk.2))); (case aS => exact (below_size (by repeat (first | (with_reducible first | exact HB.out | apply below_alloc | apply pw_below_drewN | apply below_drew1 | refine below_set ?_ (IsS196.ge HI215.out)) | exact HB.out)))); (case aL => have := LMc11.out; omega); intro v225 w16 ho hb hg hat; rw [← Ny224.out] at ho; have n0_ := Aside0.mk (IsS196.grown (by repeat (first | (with_reducible first | exact HI215.out | apply IsS196.alloc | apply IsS196.drewN | apply IsS196.drew | apply IsS196.set_0 | apply IsS196.set_1 | apply IsS196.set_2) | exact HI215.out)) hg (IsS196.own_ne HI215.out HO_8.out (by decide))); have n1_ := Aside0.mk (Kd.R_after (ok := (fun _ => True)) (by (with_reducible repeat (first | apply Kd.R_alloc | apply Kd.R_drewN | apply Kd.R_drew)); exact Kd.R_mono HO223.out (fun _ hk => ⟨trivial, hk⟩)) hg hat); have n2_ := Aside0.mk (hb); have n3_ := Aside0.mk (ho); clear HI215; clear HO223; clear HB; clear HO_8; have HI215 := n0_; have HO223 := n1_; have HB := n2_; have HO226 := n3_; clear n0_ n1_ n2_ n3_; clear ho hb hg hat))
   go_roundg k1
   case measure => have := HK1.out; omega
   case rel => exact ⟨(y221), (y224), (wrap64 (x16_1 + 1)), (t218), (t219), (t220), (by first | rfl | (simp; done) | (simp [*]; done)), H', ⟨by have := HK1.out; omega⟩, ⟨by (with_reducible repeat (first | apply Kd.R_alloc | apply Kd.R_drewN | apply Kd.R_drew)); exact Kd.R_mono HO223.out (fun _ hk => hk.2)⟩, ⟨xR HO226.out⟩, ⟨by repeat (first | (with_reducible first | exact HI215.out | apply IsS196.alloc | apply IsS196.drewN | apply IsS196.drew | apply IsS196.set_0 | apply IsS196.set_1 | apply IsS196.set_2) | exact HI215.out)⟩, ⟨by repeat (first | (with_reducible first | exact HB.out | apply below_alloc | apply pw_below_drewN | apply below_drew1 | refine below_set ?_ (IsS196.ge HI215.out)) | exact HB.out)⟩⟩
/-! ### spec_StepBits: function 37 -/
def spec_StepBits.f (k : Nat) (l0 : List Int) (a1 : Int) : Option (List Int × Bool) := (spec_wdSignal.f k l0).bind fun t227 => (if t227 = true then ((spec_tnStep.f a1).bind fun t228 => (if t228 = true then ((spec_tnCode.f k l0 a1).bind fun bt229 => (some (bt229.1, true))) else (some (([] : List Int), false)))) else (some (([] : List Int), false)))
theorem spec_StepBits.mono : ∀ a0 a1 k, LeO (spec_StepBits.f k a0 a1) (spec_StepBits.f (k + 1) a0 a1) := by
 intro a0 a1 k
 unfold spec_StepBits.f
 repeat' first
   | (with_reducible exact spec_tnCode.mono _ _ _)
   | (with_reducible exact spec_wdSignal.mono _ _)
   | (with_reducible exact LeO.refl _)
   | (with_reducible exact LeO.none _)
   | (with_reducible refine LeO.ite ?_ ?_)
   | (with_reducible refine LeO.bind ?_ (fun _ => ?_))
   | exact spec_tnCode.mono _ _ _
   | exact spec_wdSignal.mono _ _
   | exact LeO.none _
   | refine LeO.ite ?_ ?_
   | refine LeO.bind ?_ (fun _ => ?_)
set_option maxHeartbeats 8000000 in
set_option maxRecDepth 100000 in
theorem spec_StepBits.calls (k : Nat) (A0 : Option Addr) (c0 : Nat) (l0 : List Int) (a1 : Int) (r1 : List Int) (r2 : Bool) (w : World) (hr0 : Kd.C (Kd.int .i64) w A0 l0.length l0) (hc0 : l0.length ≤ c0) (h : spec_StepBits.f k l0 a1 = some (r1, r2)) :
  Calls Try.prog 37 #[.slice A0 l0.length c0, .int .i64 a1] w fun e w' => ∃ v0_ : Value, e = .returned (.tuple #[v0_, .bool r2]) ∧ Kd.R (Kd.int .i64) 3 w' w.heap.size (fun _ => True) v0_ r1 ∧ Below w.heap.size w w' := by
 have HR0 := Aside0.mk hr0
 have HC0 := Aside0.mk hc0
 clear hr0 hc0
 have HB := Aside0.mk (Below.refl w.heap.size w)
 have H : ((spec_wdSignal.f k l0).bind fun t227 => (if t227 = true then ((spec_tnStep.f a1).bind fun t228 => (if t228 = true then ((spec_tnCode.f k l0 a1).bind fun bt229 => (some (bt229.1, true))) else (some (([] : List Int), false)))) else (some (([] : List Int), false)))) = some (r1, r2) := h
 clear h
 replace H := Option.bind_eq_some_iff.mp H
 obtain ⟨t227, A30, H⟩ := H
 (try dsimp only at H)
 have A3 := Aside0.mk A30
 clear A30
 by_cases c4 : t227 = true
 rotate_left
 ·replace c4 := Bool.eq_false_iff.mpr c4
  subst c4
  have H1 := H
  rw [if_neg (show ¬ (false = true) by decide)] at H1
  clear H
  have H := H1
  clear H1
  simp only [Option.some.injEq, Prod.mk.injEq] at H
  obtain ⟨rfl, rfl⟩ := H
  go_enter Try.func37, Try.ntmps37
  go_wp2_with (first | ((with_reducible refine gate_callee (f := 236) rfl ?_); refine goesL_ (some 9) rfl rfl Try.func236 (by kernel_rfl) rfl #[.slice A0 l0.length c0] rfl (by (try simp only [List.map_toArray, List.map_cons, List.map_nil]); first | done | rfl | (simp only [List.length_drop, List.length_take]; rfl)) ?_; (with_reducible refine (spec_wdSignal.calls k _ _ l0 false _ ?side1 ?side2 A3.out).mono ?_); (case side1 => exact xC HR0.out); (case side2 => exact HC0.out); rintro e w' ⟨rfl, ⟨nd, rfl⟩⟩; refine ⟨_, rfl, ?_⟩))
  go_ret2
  exact ⟨_, by first | rfl | (simp [errW_none, errW_some] <;> rfl) | (simp [*, errW_none, errW_some] <;> rfl), by first | exact Kd.R_nil _ _ _ _ _ | exact Kd.N_nil _ _ _ _ _ | exact Kd.V_nil _ _ _ _ _ | exact Kd.Q_nil _ _ _ _ _ | exact Kd.S_nil _ _ _ _ _, xB HB.out⟩

 subst c4
 have H1 := H
 rw [if_pos rfl] at H1
 clear H
 have H := H1
 clear H1
 replace H := Option.bind_eq_some_iff.mp H
 obtain ⟨t228, A50, H⟩ := H
 (try dsimp only at H)
 have A5 := Aside0.mk A50
 clear A50
 by_cases c6 : t228 = true
 rotate_left
 ·replace c6 := Bool.eq_false_iff.mpr c6
  subst c6
  have H1 := H
  rw [if_neg (show ¬ (false = true) by decide)] at H1
  clear H
  have H := H1
  clear H1
  simp only [Option.some.injEq, Prod.mk.injEq] at H
  obtain ⟨rfl, rfl⟩ := H
  go_enter Try.func37, Try.ntmps37
  go_wp2_with (first | ((with_reducible refine gate_callee (f := 236) rfl ?_); refine goesL_ (some 9) rfl rfl Try.func236 (by kernel_rfl) rfl #[.slice A0 l0.length c0] rfl (by (try simp only [List.map_toArray, List.map_cons, List.map_nil]); first | done | rfl | (simp only [List.length_drop, List.length_take]; rfl)) ?_; (with_reducible refine (spec_wdSignal.calls k _ _ l0 true _ ?side1 ?side2 A3.out).mono ?_); (case side1 => exact xC HR0.out); (case side2 => exact HC0.out); rintro e w' ⟨rfl, ⟨nd, rfl⟩⟩; refine ⟨_, rfl, ?_⟩) | (go_at_call 237; (with_reducible refine (spec_tnStep.calls a1 false _ A5.out).mono ?_); rintro e w' ⟨rfl, ⟨nd, rfl⟩⟩))
  go_ret2
  exact ⟨_, by first | rfl | (simp [errW_none, errW_some] <;> rfl) | (simp [*, errW_none, errW_some] <;> rfl), by first | exact Kd.R_nil _ _ _ _ _ | exact Kd.N_nil _ _ _ _ _ | exact Kd.V_nil _ _ _ _ _ | exact Kd.Q_nil _ _ _ _ _ | exact Kd.S_nil _ _ _ _ _, xB HB.out⟩
 subst c6
 have H1 := H
 rw [if_pos rfl] at H1
 clear H
 have H := H1
 clear H1
 replace H := Option.bind_eq_some_iff.mp H
 obtain ⟨⟨t229, t230⟩, A70, H⟩ := H
 (try dsimp only at H)
 have A7 := Aside0.mk A70
 clear A70
 simp only [Option.some.injEq, Prod.mk.injEq] at H
 obtain ⟨rfl, rfl⟩ := H
 go_enter Try.func37, Try.ntmps37
 go_wp2_with (first | ((with_reducible refine gate_callee (f := 236) rfl ?_); refine goesL_ (some 9) rfl rfl Try.func236 (by kernel_rfl) rfl #[.slice A0 l0.length c0] rfl (by (try simp only [List.map_toArray, List.map_cons, List.map_nil]); first | done | rfl | (simp only [List.length_drop, List.length_take]; rfl)) ?_; (with_reducible refine (spec_wdSignal.calls k _ _ l0 true _ ?side1 ?side2 A3.out).mono ?_); (case side1 => exact xC HR0.out); (case side2 => exact HC0.out); rintro e w' ⟨rfl, ⟨nd, rfl⟩⟩; refine ⟨_, rfl, ?_⟩) | (go_at_call 237; (with_reducible refine (spec_tnStep.calls a1 true _ A5.out).mono ?_); rintro e w' ⟨rfl, ⟨nd, rfl⟩⟩) | ((with_reducible refine gate_callee (f := 238) rfl ?_); refine goesL_ (some 19) rfl rfl Try.func238 (by kernel_rfl) rfl #[.slice A0 l0.length c0, .int .i64 a1] rfl (by (try simp only [List.map_toArray, List.map_cons, List.map_nil]); first | done | rfl | (simp only [List.length_drop, List.length_take]; rfl)) ?_; (with_reducible refine (spec_tnCode.calls k _ _ l0 a1 t229 t230 _ ?side1 ?side2 A7.out).mono ?_); (case side1 => exact xC HR0.out); (case side2 => exact HC0.out); rintro e w8 ⟨v231, v233, rfl, ho0, ho1, hb⟩; refine ⟨_, rfl, ?_⟩; have n0_ := Aside0.mk (Kd.R_lower ho0 (below_size (xB HB.out))); have n1_ := Aside0.mk (Kd.R_lower ho1 (below_size (xB HB.out))); have n2_ := Aside0.mk (below_step (xB HB.out) hb); clear HB; have HO232 := n0_; have HO234 := n1_; have HB := n2_; clear n0_ n1_ n2_; (try clear hb); (try clear hb2); (try clear hk); (try clear hi); (try clear ho0); (try clear ho1)))
 go_ret2
 exact ⟨_, by first | rfl | (simp [errW_none, errW_some] <;> rfl) | (simp [*, errW_none, errW_some] <;> rfl), by (with_reducible repeat (first | apply Kd.R_alloc | apply Kd.R_drewN | apply Kd.R_drew)); exact Kd.R_mono HO232.out (fun _ hk => trivial), xB HB.out⟩
end Go.Proofs.Ytjplcongellcmaa.PFnStepsAdapt
