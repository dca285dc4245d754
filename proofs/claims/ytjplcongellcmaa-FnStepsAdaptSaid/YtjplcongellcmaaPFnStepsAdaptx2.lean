/- What each Go function that the statement FnStepsAdapt reaches answers, proved call by call. No condition beyond those that the theorems print. (Written by wip/tools/xprint.py of this repo, over the kit's print.) -/
import Derived.Test.YtjplcongellcmaaPFnStepsAdaptx0
import Derived.Test.YtjplcongellcmaaPFnStepsAdaptx1
namespace Go.Proofs.Ytjplcongellcmaa.PFnStepsAdapt
open Go.RowKit Go.Proofs.YtjplcongellcmaaW.PrintWords Go.Proofs.YtjplcongellcmaaW.PrintLast Go.Proofs.YtjplcongellcmaaW.PrintMore
attribute [local go_sem] max2_int min2_int max_two min_two max_three min_three max_four min_four   -- for this text's walks alone
set_option linter.unusedVariables false
set_option linter.unusedSimpArgs false

/-! ### impl_isStep: function 234 -/
def impl_isStep.f (a0 : Int) : Option (Bool) := (impl_in.f a0 1 4096).bind fun t171 => (some t171)
set_option maxHeartbeats 8000000 in
set_option maxRecDepth 100000 in
theorem impl_isStep.calls (a0 : Int) (r : Bool) (w : World) (h : impl_isStep.f a0 = some r) :
  Calls Try.prog 234 #[.int .i64 a0] w fun e w' => e = .returned (.bool r) ∧ Drawn0 w w' := by
 have H : ((impl_in.f a0 1 4096).bind fun t171 => (some t171)) = some r := h
 clear h
 replace H := Option.bind_eq_some_iff.mp H
 obtain ⟨t171, A20, H⟩ := H
 (try dsimp only at H)
 have A2 := Aside0.mk A20
 clear A20
 obtain rfl := Option.some.inj H
 go_enter Try.func234, Try.ntmps234
 go_wp2_with (first | ((with_reducible refine gate_callee (f := 223) rfl ?_); refine goesL_ (some 4) rfl rfl Try.func223 (by kernel_rfl) rfl #[.int .i64 a0, .int .i64 1, .int .i64 4096] rfl (by (try simp only [List.map_toArray, List.map_cons, List.map_nil]); first | done | rfl | (simp only [List.length_drop, List.length_take]; rfl)) ?_; (with_reducible refine (impl_in.calls a0 1 4096 t171 _ A2.out).mono ?_); rintro e w' ⟨rfl, ⟨nd, rfl⟩⟩; refine ⟨_, rfl, ?_⟩))
 go_ret
 exact ⟨by first | rfl | (simp; done) | (simp [*]; done), by repeat (first | exact Drawn0.refl _ | apply Drawn0.step)⟩

/-! ### impl_bitOf: function 371 -/
def impl_bitOf.f (a0 : Int) : Option (Int) := if a0 ≥ 0 then (some 1) else (some (-1))
set_option maxHeartbeats 8000000 in
set_option maxRecDepth 100000 in
theorem impl_bitOf.calls (a0 : Int) (r : Int) (w : World) (h : impl_bitOf.f a0 = some r) :
  Calls Try.prog 371 #[.int .i64 a0] w fun e w' => e = .returned (.int .i64 r) ∧ Drawn0 w w' := by
 have H : (if a0 ≥ 0 then (some 1) else (some (-1))) = some r := h
 clear h
 by_cases c2 : a0 ≥ 0
 ·rw [if_pos c2] at H
  have c2b0 : decide (0 ≤ a0) = true := decide_eq_true c2
  clear c2
  obtain rfl := Option.some.inj H
  go_enter Try.func371, Try.ntmps371
  go_wp2
  go_ret
  exact ⟨by first | rfl | (simp; done) | (simp [*]; done), by repeat (first | exact Drawn0.refl _ | apply Drawn0.step)⟩
 rw [if_neg c2] at H
 have c2b0 : decide (0 ≤ a0) = false := decide_eq_false c2
 clear c2
 obtain rfl := Option.some.inj H
 go_enter Try.func371, Try.ntmps371
 go_wp2
 go_ret
 exact ⟨by first | rfl | (simp; done) | (simp [*]; done), by repeat (first | exact Drawn0.refl _ | apply Drawn0.step)⟩

/-- A state of type 144 at block g of W; what its slices lead to came in by w0. -/
def IsS144 (w0 W : World) (g : Nat) (f0 : Int) (f1 : Int) (f2 : Int) (f3 : Bool) : Prop := W.heap[g]? = some (.cells #[.int .i64 f0, .int .i64 f1, .int .i64 f2, .bool f3] 144 (0, 0)) ∧ w0.heap.size ≤ g
theorem IsS144.grown {w0 W : World} {g : Nat} {f0 : Int} {f1 : Int} {f2 : Int} {f3 : Bool} {W1 : World} {row : Option Nat} (h : IsS144 w0 W g f0 f1 f2 f3) (hw : W.grownBy W1 row) (hne : some g ≠ row) : IsS144 w0 W1 g f0 f1 f2 f3 := by
 obtain ⟨hb, hg⟩ := h
 exact ⟨blk_grown hb hw hne, hg⟩
theorem IsS144.own_neN {w0 W : World} {g : Nat} {f0 : Int} {f1 : Int} {f2 : Int} {f3 : Bool} {α : Type} {d : Kd α} {e : Nat} {base : Nat} {ok : Nat → Prop} {v : Value} {xs : List α} (h : IsS144 w0 W g f0 f1 f2 f3) (ho : Kd.N d e W base ok v xs) (ht : e ≠ 144) : some g ≠ v.ownBlock := by
 obtain ⟨hb, hg⟩ := h
 exact Kd.N_ne ho hb ht
theorem IsS144.fresh {w0 W : World} {g : Nat} {f0 : Int} {f1 : Int} {f2 : Int} {f3 : Bool} (h : IsS144 w0 W g f0 f1 f2 f3) : ∀ k, W.heap.size ≤ k → k ≠ g := by
 obtain ⟨hb, hg⟩ := h
 exact Kd.freshB hb
theorem IsS144.kept {w0 W : World} {g : Nat} {f0 : Int} {f1 : Int} {f2 : Int} {f3 : Bool} {W1 : World} {S : Nat → Prop} (h : IsS144 w0 W g f0 f1 f2 f3) (hk : Kept W W1 S) (hne : ¬ S g) : IsS144 w0 W1 g f0 f1 f2 f3 := by
 obtain ⟨hb, hg⟩ := h
 exact ⟨blk_kept hb hk hne, hg⟩
theorem IsS144.below {w0 W : World} {g : Nat} {f0 : Int} {f1 : Int} {f2 : Int} {f3 : Bool} {W1 : World} (h : IsS144 w0 W g f0 f1 f2 f3) (hw : Below W.heap.size W W1) : IsS144 w0 W1 g f0 f1 f2 f3 := h.grown (grown_of_below hw none) (by simp)
theorem IsS144.alloc {w0 W : World} {g : Nat} {f0 : Int} {f1 : Int} {f2 : Int} {f3 : Bool} (h : IsS144 w0 W g f0 f1 f2 f3) (o : Obj) : IsS144 w0 (W.alloc o) g f0 f1 f2 f3 := h.below (below_alloc (Below.refl _ _) o)
theorem IsS144.drewN {w0 W : World} {g : Nat} {f0 : Int} {f1 : Int} {f2 : Int} {f3 : Bool} (h : IsS144 w0 W g f0 f1 f2 f3) (m : Nat) : IsS144 w0 (W.drewN m) g f0 f1 f2 f3 := h
theorem IsS144.drew {w0 W : World} {g : Nat} {f0 : Int} {f1 : Int} {f2 : Int} {f3 : Bool} (h : IsS144 w0 W g f0 f1 f2 f3) : IsS144 w0 W.drew g f0 f1 f2 f3 := h
theorem IsS144.at_ {w0 W : World} {g : Nat} {f0 : Int} {f1 : Int} {f2 : Int} {f3 : Bool} {w' : World} {m : Nat} (hq : W.drewN m = w') (h : IsS144 w0 W g f0 f1 f2 f3) : IsS144 w0 w' g f0 f1 f2 f3 := by subst hq; exact IsS144.drewN h m
theorem IsS144.apart {w0 W : World} {g : Nat} {f0 : Int} {f1 : Int} {f2 : Int} {f3 : Bool} {α : Type} {d : Kd α} {e : Nat} {base : Nat} {ok : Nat → Prop} {v : Value} {xs : List α} (h : IsS144 w0 W g f0 f1 f2 f3) (ho : d.R e W base ok v xs) (ht : ∀ q, q ∈ e :: d.E → q ≠ 144) : d.R e W base (fun k => ok k ∧ k ≠ g) v xs := by
 obtain ⟨hb, hg⟩ := h
 exact Kd.R_types ho hb ht
theorem IsS144.own_ne {w0 W : World} {g : Nat} {f0 : Int} {f1 : Int} {f2 : Int} {f3 : Bool} {α : Type} {d : Kd α} {e : Nat} {base : Nat} {ok : Nat → Prop} {v : Value} {xs : List α} (h : IsS144 w0 W g f0 f1 f2 f3) (ho : d.R e W base ok v xs) (ht : e ≠ 144) : some g ≠ v.ownBlock := by
 obtain ⟨hb, hg⟩ := h
 exact Kd.R_ne ho hb ht
theorem IsS144.apartQ {w0 W : World} {g : Nat} {f0 : Int} {f1 : Int} {f2 : Int} {f3 : Bool} {α : Type} {d : Kd α} {e : Nat} {base : Nat} {ok : Nat → Prop} {v : Value} {xs : List α} (h : IsS144 w0 W g f0 f1 f2 f3) (ho : d.Q e W base ok v xs) (ht : ∀ q, q ∈ e :: d.E → q ≠ 144) : d.Q e W base (fun k => ok k ∧ k ≠ g) v xs := by
 obtain ⟨hb, hg⟩ := h
 exact Kd.Q_types ho hb ht
theorem IsS144.own_neQ {w0 W : World} {g : Nat} {f0 : Int} {f1 : Int} {f2 : Int} {f3 : Bool} {α : Type} {d : Kd α} {e : Nat} {base : Nat} {ok : Nat → Prop} {v : Value} {xs : List α} (h : IsS144 w0 W g f0 f1 f2 f3) (ho : d.Q e W base ok v xs) (ht : e ≠ 144) : some g ≠ v.ownBlock := by
 obtain ⟨hb, hg⟩ := h
 exact Kd.Q_ne ho hb ht
theorem IsS144.apartS {w0 W : World} {g : Nat} {f0 : Int} {f1 : Int} {f2 : Int} {f3 : Bool} {α : Type} {d : Kd α} {e : Nat} {base : Nat} {ok : Nat → Prop} {v : Value} {xs : List α} (h : IsS144 w0 W g f0 f1 f2 f3) (ho : d.S e W base ok v xs) (ht : ∀ q, q ∈ e :: d.E → q ≠ 144) : d.S e W base (fun k => ok k ∧ k ≠ g) v xs := by
 obtain ⟨hb, hg⟩ := h
 exact Kd.S_types ho hb ht
theorem IsS144.own_neS {w0 W : World} {g : Nat} {f0 : Int} {f1 : Int} {f2 : Int} {f3 : Bool} {α : Type} {d : Kd α} {e : Nat} {base : Nat} {ok : Nat → Prop} {v : Value} {xs : List α} (h : IsS144 w0 W g f0 f1 f2 f3) (ho : d.S e W base ok v xs) (ht : e ≠ 144) : some g ≠ v.ownBlock := by
 obtain ⟨hb, hg⟩ := h
 exact Kd.S_ne ho hb ht
theorem IsS144.lt {w0 W : World} {g : Nat} {f0 : Int} {f1 : Int} {f2 : Int} {f3 : Bool} (h : IsS144 w0 W g f0 f1 f2 f3) : g < W.heap.size := by
 obtain ⟨hb, hg⟩ := h
 exact blk_lt hb
theorem IsS144.ge {w0 W : World} {g : Nat} {f0 : Int} {f1 : Int} {f2 : Int} {f3 : Bool} (h : IsS144 w0 W g f0 f1 f2 f3) : w0.heap.size ≤ g := by
 obtain ⟨hb, hg⟩ := h
 exact hg
theorem IsS144.ne_blk {w0 W : World} {g : Nat} {f0 : Int} {f1 : Int} {f2 : Int} {f3 : Bool} {a : Nat} {cs : Array Value} {t : TypeId} {fr : Nat × Nat} (h : IsS144 w0 W g f0 f1 f2 f3) (hb2 : W.heap[a]? = some (.cells cs t fr)) (ht : t ≠ 144) : g ≠ a := by
 obtain ⟨hb, hg⟩ := h
 rintro rfl
 rw [hb] at hb2
 injection hb2 with hb2
 injection hb2 with _ ht2
 exact ht ht2.symm
theorem IsS144.far {w0 W : World} {g : Nat} {f0 : Int} {f1 : Int} {f2 : Int} {f3 : Bool} {p : Addr} (h : IsS144 w0 W g f0 f1 f2 f3) (hne : g ≠ p.block) (u : Value) : IsS144 w0 (W.setCell p u) g f0 f1 f2 f3 := by
 obtain ⟨hb, hg⟩ := h
 exact ⟨blk_far hb hne u, hg⟩
theorem cellS144_0 {W : World} {g : Nat} {f0 : Int} {f1 : Int} {f2 : Int} {f3 : Bool} (h : W.heap[g]? = some (.cells #[.int .i64 f0, .int .i64 f1, .int .i64 f2, .bool f3] 144 (0, 0))) : W.cell? ⟨g, 0, none⟩ = some (.int .i64 f0) := (blk_cell h 0).trans rfl
theorem IsS144.set_0 {w0 W : World} {g : Nat} {f0 : Int} {f1 : Int} {f2 : Int} {f3 : Bool} (h : IsS144 w0 W g f0 f1 f2 f3) (x : Int) : IsS144 w0 (W.setCell ⟨g, 0, none⟩ (.int .i64 x)) g x f1 f2 f3 := by
 obtain ⟨hb, hg⟩ := h
 exact ⟨by simpa using blk_set hb 0 (.int .i64 x), hg⟩
theorem cellS144_1 {W : World} {g : Nat} {f0 : Int} {f1 : Int} {f2 : Int} {f3 : Bool} (h : W.heap[g]? = some (.cells #[.int .i64 f0, .int .i64 f1, .int .i64 f2, .bool f3] 144 (0, 0))) : W.cell? ⟨g, 1, none⟩ = some (.int .i64 f1) := (blk_cell h 1).trans rfl
theorem IsS144.set_1 {w0 W : World} {g : Nat} {f0 : Int} {f1 : Int} {f2 : Int} {f3 : Bool} (h : IsS144 w0 W g f0 f1 f2 f3) (x : Int) : IsS144 w0 (W.setCell ⟨g, 1, none⟩ (.int .i64 x)) g f0 x f2 f3 := by
 obtain ⟨hb, hg⟩ := h
 exact ⟨by simpa using blk_set hb 1 (.int .i64 x), hg⟩
theorem cellS144_2 {W : World} {g : Nat} {f0 : Int} {f1 : Int} {f2 : Int} {f3 : Bool} (h : W.heap[g]? = some (.cells #[.int .i64 f0, .int .i64 f1, .int .i64 f2, .bool f3] 144 (0, 0))) : W.cell? ⟨g, 2, none⟩ = some (.int .i64 f2) := (blk_cell h 2).trans rfl
theorem IsS144.set_2 {w0 W : World} {g : Nat} {f0 : Int} {f1 : Int} {f2 : Int} {f3 : Bool} (h : IsS144 w0 W g f0 f1 f2 f3) (x : Int) : IsS144 w0 (W.setCell ⟨g, 2, none⟩ (.int .i64 x)) g f0 f1 x f3 := by
 obtain ⟨hb, hg⟩ := h
 exact ⟨by simpa using blk_set hb 2 (.int .i64 x), hg⟩
theorem cellS144_3 {W : World} {g : Nat} {f0 : Int} {f1 : Int} {f2 : Int} {f3 : Bool} (h : W.heap[g]? = some (.cells #[.int .i64 f0, .int .i64 f1, .int .i64 f2, .bool f3] 144 (0, 0))) : W.cell? ⟨g, 3, none⟩ = some (.bool f3) := (blk_cell h 3).trans rfl
theorem IsS144.set_3 {w0 W : World} {g : Nat} {f0 : Int} {f1 : Int} {f2 : Int} {f3 : Bool} (h : IsS144 w0 W g f0 f1 f2 f3) (x : Bool) : IsS144 w0 (W.setCell ⟨g, 3, none⟩ (.bool x)) g f0 f1 f2 x := by
 obtain ⟨hb, hg⟩ := h
 exact ⟨by simpa using blk_set hb 3 (.bool x), hg⟩
theorem IsS144.new (w0 W : World) (f0 : Int) (f1 : Int) (f2 : Int) (f3 : Bool) (hB : Below w0.heap.size w0 W) : IsS144 w0 (W.alloc (.cells #[.int .i64 f0, .int .i64 f1, .int .i64 f2, .bool f3] 144)) W.heap.size f0 f1 f2 f3 := ⟨by simpa using heap_alloc_new W _, hB.size⟩

/-! ### impl_stepper_take: function 372 -/
def impl_stepper_take.f (s0_0 : Int) (s0_1 : Int) (s0_2 : Int) (s0_3 : Bool) (a1 : Int) : Option (Int × Int × Int × Bool) := if s0_3 = true then (some (wrap64 (s0_0 + (wrap64 (s0_1 * a1))), s0_1, a1, s0_3)) else (if s0_2 = 0 then (some (wrap64 (s0_0 + (wrap64 (s0_1 * a1))), s0_1, a1, s0_3)) else (if a1 = s0_2 then (if 4096 < (wrap64 (2 * s0_1)) then (some (wrap64 (s0_0 + (wrap64 (4096 * a1))), 4096, a1, s0_3)) else (some (wrap64 (s0_0 + (wrap64 ((wrap64 (2 * s0_1)) * a1))), (wrap64 (2 * s0_1)), a1, s0_3))) else (if (wrap64 (Int.tdiv s0_1 2)) < 1 then (some (wrap64 (s0_0 + (wrap64 a1)), 1, a1, s0_3)) else (some (wrap64 (s0_0 + (wrap64 ((wrap64 (Int.tdiv s0_1 2)) * a1))), (wrap64 (Int.tdiv s0_1 2)), a1, s0_3)))))
set_option maxHeartbeats 8000000 in
set_option maxRecDepth 100000 in
theorem impl_stepper_take.calls (g : Nat) (s0_0 : Int) (s0_1 : Int) (s0_2 : Int) (s0_3 : Bool) (a1 : Int) (r1 : Int) (r2 : Int) (r3 : Int) (r4 : Bool) (w0 w : World) (hI : IsS144 w0 w g s0_0 s0_1 s0_2 s0_3) (hB : Below w0.heap.size w0 w) (h : impl_stepper_take.f s0_0 s0_1 s0_2 s0_3 a1 = some (r1, r2, r3, r4)) :
  Calls Try.prog 372 #[.pointer (some ⟨g, 0, none⟩), .int .i64 a1] w fun e w' => e = .returned (.tuple #[]) ∧ IsS144 w0 w' g r1 r2 r3 r4 ∧ Below w0.heap.size w0 w' ∧ KeepBut w w' g none := by
 have HI0 := Aside0.mk hI
 have HK := Aside0.mk (KeepBut.refl w g none)
 clear hI
 have HB := Aside0.mk hB
 clear hB
 unfold impl_stepper_take.f at h
 by_cases c3 : s0_3 = true
 ·rw [if_pos c3] at h
  subst c3
  simp only [Option.some.injEq, Prod.mk.injEq] at h
  obtain ⟨rfl, rfl, rfl, rfl⟩ := h
  obtain ⟨HG, hg⟩ := HI0.out
  have hc_0 := cellS144_0 HG
  have hc_1 := cellS144_1 HG
  have hc_2 := cellS144_2 HG
  have hc_3 := cellS144_3 HG
  have hf_0 := blk_frozen HG 0
  have hf_1 := blk_frozen HG 1
  have hf_2 := blk_frozen HG 2
  have hf_3 := blk_frozen HG 3
  clear HG hg
  go_enter Try.func372, Try.ntmps372
  go_wp2
  repeat (go_quiet (fail); try go_wp2)
  refine wp_region_still_tail 13 (by kernel_rfl) (by kernel_rfl) ?_
  change wpStill _ _ (World.drew (World.setCell w ⟨g, 2, none⟩ (.int .i64 a1))) (fun a' => wpList _ _ _ _ a' (World.drew (World.setCell w ⟨g, 2, none⟩ (.int .i64 a1)))) _ _
  generalize hW2 : World.drew (World.setCell w ⟨g, 2, none⟩ (.int .i64 a1)) = W2
  have HI1 : IsS144 w0 W2 g s0_0 s0_1 a1 true := by
   rw [← hW2]
   exact IsS144.drew (IsS144.set_2 HI0.out a1)
  have HB1 : Below w0.heap.size w0 W2 := by
   rw [← hW2]
   repeat (with_reducible first | exact HB.out | apply below_drew1 | refine below_set ?_ (IsS144.ge HI0.out))
  have HK1 : KeepBut w W2 g none := by
   rw [← hW2]
   repeat (with_reducible first | exact HK.out | apply keep_drew | apply KeepBut.set_)
  clear hW2 hc_0 hc_1 hc_2 hc_3 hf_0 hf_1 hf_2 hf_3
  replace HI1 := Aside0.mk HI1
  replace HB1 := Aside0.mk HB1
  replace HK1 := Aside0.mk HK1
  obtain ⟨HG, hg⟩ := HI1.out
  have hc_0 := cellS144_0 HG
  have hc_1 := cellS144_1 HG
  have hf_0 := blk_frozen HG 0
  clear HG hg
  simp only [List.take_succ_cons, List.take_zero, List.drop_succ_cons, List.drop_zero]
  repeat still_step
  try refine wpStill_nil ?_
  go_wp2
  (first | go_end0 | ((try simp only [Exit.inBlock, Exit.then]); refine bodyPost_ret (results_none rfl _ _ _) rfl ?_))
  exact ⟨by first | rfl | (simp; done), by repeat (first | (with_reducible first | exact HI1.out | apply IsS144.set_0) | exact HI1.out), by repeat (first | (with_reducible first | exact HB1.out | refine below_set ?_ (IsS144.ge HI1.out)) | exact HB1.out), by repeat (first | (with_reducible first | exact HK1.out | apply KeepBut.set_) | exact HK1.out)⟩
 rw [if_neg c3] at h
 have c3' : s0_3 = false := by simpa using c3
 subst c3'
 clear c3
 by_cases c2 : s0_2 = 0
 ·rw [if_pos c2] at h
  subst c2
  simp only [Option.some.injEq, Prod.mk.injEq] at h
  obtain ⟨rfl, rfl, rfl, rfl⟩ := h
  obtain ⟨HG, hg⟩ := HI0.out
  have hc_0 := cellS144_0 HG
  have hc_1 := cellS144_1 HG
  have hc_2 := cellS144_2 HG
  have hc_3 := cellS144_3 HG
  have hf_0 := blk_frozen HG 0
  have hf_1 := blk_frozen HG 1
  have hf_2 := blk_frozen HG 2
  have hf_3 := blk_frozen HG 3
  clear HG hg
  go_enter Try.func372, Try.ntmps372
  go_wp2
  repeat (go_quiet (fail); try go_wp2)
  refine wp_region_still_tail 13 (by kernel_rfl) (by kernel_rfl) ?_
  change wpStill _ _ (World.drew (World.setCell w ⟨g, 2, none⟩ (.int .i64 a1))) (fun a' => wpList _ _ _ _ a' (World.drew (World.setCell w ⟨g, 2, none⟩ (.int .i64 a1)))) _ _
  generalize hW2 : World.drew (World.setCell w ⟨g, 2, none⟩ (.int .i64 a1)) = W2
  have HI1 : IsS144 w0 W2 g s0_0 s0_1 a1 false := by
   rw [← hW2]
   exact IsS144.drew (IsS144.set_2 HI0.out a1)
  have HB1 : Below w0.heap.size w0 W2 := by
   rw [← hW2]
   repeat (with_reducible first | exact HB.out | apply below_drew1 | refine below_set ?_ (IsS144.ge HI0.out))
  have HK1 : KeepBut w W2 g none := by
   rw [← hW2]
   repeat (with_reducible first | exact HK.out | apply keep_drew | apply KeepBut.set_)
  clear hW2 hc_0 hc_1 hc_2 hc_3 hf_0 hf_1 hf_2 hf_3
  replace HI1 := Aside0.mk HI1
  replace HB1 := Aside0.mk HB1
  replace HK1 := Aside0.mk HK1
  obtain ⟨HG, hg⟩ := HI1.out
  have hc_0 := cellS144_0 HG
  have hc_1 := cellS144_1 HG
  have hf_0 := blk_frozen HG 0
  clear HG hg
  simp only [List.take_succ_cons, List.take_zero, List.drop_succ_cons, List.drop_zero]
  repeat still_step
  try refine wpStill_nil ?_
  go_wp2
  (first | go_end0 | ((try simp only [Exit.inBlock, Exit.then]); refine bodyPost_ret (results_none rfl _ _ _) rfl ?_))
  exact ⟨by first | rfl | (simp; done), by repeat (first | (with_reducible first | exact HI1.out | apply IsS144.set_0) | exact HI1.out), by repeat (first | (with_reducible first | exact HB1.out | refine below_set ?_ (IsS144.ge HI1.out)) | exact HB1.out), by repeat (first | (with_reducible first | exact HK1.out | apply KeepBut.set_) | exact HK1.out)⟩
 rw [if_neg c2] at h
 have c2b0 : (s0_2 == 0) = false := beq_eq_false_iff_ne.mpr c2
 clear c2
 by_cases c1 : a1 = s0_2
 ·rw [if_pos c1] at h
  have c1b0 : (a1 == s0_2) = true := beq_iff_eq.mpr c1
  clear c1
  by_cases c5 : 4096 < (wrap64 (2 * s0_1))
  rotate_left
  ·rw [if_neg c5] at h
   have c5b0 : decide (4096 < (wrap64 (2 * s0_1))) = false := decide_eq_false c5
   simp only [Option.some.injEq, Prod.mk.injEq] at h
   obtain ⟨rfl, rfl, rfl, rfl⟩ := h
   obtain ⟨HG, hg⟩ := HI0.out
   have hc_0 := cellS144_0 HG
   have hc_1 := cellS144_1 HG
   have hc_2 := cellS144_2 HG
   have hc_3 := cellS144_3 HG
   have hf_0 := blk_frozen HG 0
   have hf_1 := blk_frozen HG 1
   have hf_2 := blk_frozen HG 2
   have hf_3 := blk_frozen HG 3
   clear HG hg
   go_enter Try.func372, Try.ntmps372
   go_wp2
   repeat (go_quiet (fail); try go_wp2)
   refine wp_region_still_tail 13 (by kernel_rfl) (by kernel_rfl) ?_
   change wpStill _ _ (World.drew (World.setCell (World.setCell w ⟨g, 1, none⟩ (.int .i64 (wrap64 (2 * s0_1)))) ⟨g, 2, none⟩ (.int .i64 a1))) (fun a' => wpList _ _ _ _ a' (World.drew (World.setCell (World.setCell w ⟨g, 1, none⟩ (.int .i64 (wrap64 (2 * s0_1)))) ⟨g, 2, none⟩ (.int .i64 a1)))) _ _
   generalize hW2 : World.drew (World.setCell (World.setCell w ⟨g, 1, none⟩ (.int .i64 (wrap64 (2 * s0_1)))) ⟨g, 2, none⟩ (.int .i64 a1)) = W2
   have HI1 : IsS144 w0 W2 g s0_0 (wrap64 (2 * s0_1)) a1 false := by
    rw [← hW2]
    exact IsS144.drew (IsS144.set_2 (IsS144.set_1 HI0.out (wrap64 (2 * s0_1))) a1)
   have HB1 : Below w0.heap.size w0 W2 := by
    rw [← hW2]
    repeat (with_reducible first | exact HB.out | apply below_drew1 | refine below_set ?_ (IsS144.ge HI0.out))
   have HK1 : KeepBut w W2 g none := by
    rw [← hW2]
    repeat (with_reducible first | exact HK.out | apply keep_drew | apply KeepBut.set_)
   clear hW2 hc_0 hc_1 hc_2 hc_3 hf_0 hf_1 hf_2 hf_3
   replace HI1 := Aside0.mk HI1
   replace HB1 := Aside0.mk HB1
   replace HK1 := Aside0.mk HK1
   obtain ⟨HG, hg⟩ := HI1.out
   have hc_0 := cellS144_0 HG
   have hc_1 := cellS144_1 HG
   have hf_0 := blk_frozen HG 0
   clear HG hg
   simp only [List.take_succ_cons, List.take_zero, List.drop_succ_cons, List.drop_zero]
   repeat still_step
   try refine wpStill_nil ?_
   go_wp2
   (first | go_end0 | ((try simp only [Exit.inBlock, Exit.then]); refine bodyPost_ret (results_none rfl _ _ _) rfl ?_))
   exact ⟨by first | rfl | (simp; done), by repeat (first | (with_reducible first | exact HI1.out | apply IsS144.set_0) | exact HI1.out), by repeat (first | (with_reducible first | exact HB1.out | refine below_set ?_ (IsS144.ge HI1.out)) | exact HB1.out), by repeat (first | (with_reducible first | exact HK1.out | apply KeepBut.set_) | exact HK1.out)⟩
  rw [if_pos c5] at h
  have c5b0 : decide (4096 < (wrap64 (2 * s0_1))) = true := decide_eq_true c5
  simp only [Option.some.injEq, Prod.mk.injEq] at h
  obtain ⟨rfl, rfl, rfl, rfl⟩ := h
  obtain ⟨HG, hg⟩ := HI0.out
  have hc_0 := cellS144_0 HG
  have hc_1 := cellS144_1 HG
  have hc_2 := cellS144_2 HG
  have hc_3 := cellS144_3 HG
  have hf_0 := blk_frozen HG 0
  have hf_1 := blk_frozen HG 1
  have hf_2 := blk_frozen HG 2
  have hf_3 := blk_frozen HG 3
  clear HG hg
  go_enter Try.func372, Try.ntmps372
  go_wp2
  repeat (go_quiet (fail); try go_wp2)
  refine wp_region_still_tail 13 (by kernel_rfl) (by kernel_rfl) ?_
  change wpStill _ _ (World.drew (World.setCell (World.setCell w ⟨g, 1, none⟩ (.int .i64 4096)) ⟨g, 2, none⟩ (.int .i64 a1))) (fun a' => wpList _ _ _ _ a' (World.drew (World.setCell (World.setCell w ⟨g, 1, none⟩ (.int .i64 4096)) ⟨g, 2, none⟩ (.int .i64 a1)))) _ _
  generalize hW2 : World.drew (World.setCell (World.setCell w ⟨g, 1, none⟩ (.int .i64 4096)) ⟨g, 2, none⟩ (.int .i64 a1)) = W2
  have HI1 : IsS144 w0 W2 g s0_0 4096 a1 false := by
   rw [← hW2]
   exact IsS144.drew (IsS144.set_2 (IsS144.set_1 HI0.out 4096) a1)
  have HB1 : Below w0.heap.size w0 W2 := by
   rw [← hW2]
   repeat (with_reducible first | exact HB.out | apply below_drew1 | refine below_set ?_ (IsS144.ge HI0.out))
  have HK1 : KeepBut w W2 g none := by
   rw [← hW2]
   repeat (with_reducible first | exact HK.out | apply keep_drew | apply KeepBut.set_)
  clear hW2 hc_0 hc_1 hc_2 hc_3 hf_0 hf_1 hf_2 hf_3
  replace HI1 := Aside0.mk HI1
  replace HB1 := Aside0.mk HB1
  replace HK1 := Aside0.mk HK1
  obtain ⟨HG, hg⟩ := HI1.out
  have hc_0 := cellS144_0 HG
  have hc_1 := cellS144_1 HG
  have hf_0 := blk_frozen HG 0
  clear HG hg
  simp only [List.take_succ_cons, List.take_zero, List.drop_succ_cons, List.drop_zero]
  repeat still_step
  try refine wpStill_nil ?_
  go_wp2
  (first | go_end0 | ((try simp only [Exit.inBlock, Exit.then]); refine bodyPost_ret (results_none rfl _ _ _) rfl ?_))
  exact ⟨by first | rfl | (simp; done), by repeat (first | (with_reducible first | exact HI1.out | apply IsS144.set_0) | exact HI1.out), by repeat (first | (with_reducible first | exact HB1.out | refine below_set ?_ (IsS144.ge HI1.out)) | exact HB1.out), by repeat (first | (with_reducible first | exact HK1.out | apply KeepBut.set_) | exact HK1.out)⟩
 rw [if_neg c1] at h
 have c1b0 : (a1 == s0_2) = false := beq_eq_false_iff_ne.mpr c1
 clear c1
 by_cases c5 : (wrap64 (Int.tdiv s0_1 2)) < 1
 ·rw [if_pos c5] at h
  have c5b0 : decide ((wrap64 (Int.tdiv s0_1 2)) < 1) = true := decide_eq_true c5
  simp only [Option.some.injEq, Prod.mk.injEq] at h
  obtain ⟨rfl, rfl, rfl, rfl⟩ := h
  obtain ⟨HG, hg⟩ := HI0.out
  have hc_0 := cellS144_0 HG
  have hc_1 := cellS144_1 HG
  have hc_2 := cellS144_2 HG
  have hc_3 := cellS144_3 HG
  have hf_0 := blk_frozen HG 0
  have hf_1 := blk_frozen HG 1
  have hf_2 := blk_frozen HG 2
  have hf_3 := blk_frozen HG 3
  clear HG hg
  go_enter Try.func372, Try.ntmps372
  go_wp2
  repeat (go_quiet (fail); try go_wp2)
  refine wp_region_still_tail 13 (by kernel_rfl) (by kernel_rfl) ?_
  change wpStill _ _ (World.drew (World.setCell (World.setCell w ⟨g, 1, none⟩ (.int .i64 1)) ⟨g, 2, none⟩ (.int .i64 a1))) (fun a' => wpList _ _ _ _ a' (World.drew (World.setCell (World.setCell w ⟨g, 1, none⟩ (.int .i64 1)) ⟨g, 2, none⟩ (.int .i64 a1)))) _ _
  generalize hW2 : World.drew (World.setCell (World.setCell w ⟨g, 1, none⟩ (.int .i64 1)) ⟨g, 2, none⟩ (.int .i64 a1)) = W2
  have HI1 : IsS144 w0 W2 g s0_0 1 a1 false := by
   rw [← hW2]
   exact IsS144.drew (IsS144.set_2 (IsS144.set_1 HI0.out 1) a1)
  have HB1 : Below w0.heap.size w0 W2 := by
   rw [← hW2]
   repeat (with_reducible first | exact HB.out | apply below_drew1 | refine below_set ?_ (IsS144.ge HI0.out))
  have HK1 : KeepBut w W2 g none := by
   rw [← hW2]
   repeat (with_reducible first | exact HK.out | apply keep_drew | apply KeepBut.set_)
  clear hW2 hc_0 hc_1 hc_2 hc_3 hf_0 hf_1 hf_2 hf_3
  replace HI1 := Aside0.mk HI1
  replace HB1 := Aside0.mk HB1
  replace HK1 := Aside0.mk HK1
  obtain ⟨HG, hg⟩ := HI1.out
  have hc_0 := cellS144_0 HG
  have hc_1 := cellS144_1 HG
  have hf_0 := blk_frozen HG 0
  clear HG hg
  simp only [List.take_succ_cons, List.take_zero, List.drop_succ_cons, List.drop_zero]
  repeat still_step
  try refine wpStill_nil ?_
  go_wp2
  (first | go_end0 | ((try simp only [Exit.inBlock, Exit.then]); refine bodyPost_ret (results_none rfl _ _ _) rfl ?_))
  exact ⟨by first | rfl | (simp; done), by repeat (first | (with_reducible first | exact HI1.out | apply IsS144.set_0) | exact HI1.out), by repeat (first | (with_reducible first | exact HB1.out | refine below_set ?_ (IsS144.ge HI1.out)) | exact HB1.out), by repeat (first | (with_reducible first | exact HK1.out | apply KeepBut.set_) | exact HK1.out)⟩
 rw [if_neg c5] at h
 have c5b0 : decide ((wrap64 (Int.tdiv s0_1 2)) < 1) = false := decide_eq_false c5
 simp only [Option.some.injEq, Prod.mk.injEq] at h
 obtain ⟨rfl, rfl, rfl, rfl⟩ := h
 obtain ⟨HG, hg⟩ := HI0.out
 have hc_0 := cellS144_0 HG
 have hc_1 := cellS144_1 HG
 have hc_2 := cellS144_2 HG
 have hc_3 := cellS144_3 HG
 have hf_0 := blk_frozen HG 0
 have hf_1 := blk_frozen HG 1
 have hf_2 := blk_frozen HG 2
 have hf_3 := blk_frozen HG 3
 clear HG hg
 go_enter Try.func372, Try.ntmps372
 go_wp2
 repeat (go_quiet (fail); try go_wp2)
 refine wp_region_still_tail 13 (by kernel_rfl) (by kernel_rfl) ?_
 change wpStill _ _ (World.drew (World.setCell (World.setCell w ⟨g, 1, none⟩ (.int .i64 (wrap64 (Int.tdiv s0_1 2)))) ⟨g, 2, none⟩ (.int .i64 a1))) (fun a' => wpList _ _ _ _ a' (World.drew (World.setCell (World.setCell w ⟨g, 1, none⟩ (.int .i64 (wrap64 (Int.tdiv s0_1 2)))) ⟨g, 2, none⟩ (.int .i64 a1)))) _ _
 generalize hW2 : World.drew (World.setCell (World.setCell w ⟨g, 1, none⟩ (.int .i64 (wrap64 (Int.tdiv s0_1 2)))) ⟨g, 2, none⟩ (.int .i64 a1)) = W2
 have HI1 : IsS144 w0 W2 g s0_0 (wrap64 (Int.tdiv s0_1 2)) a1 false := by
  rw [← hW2]
  exact IsS144.drew (IsS144.set_2 (IsS144.set_1 HI0.out (wrap64 (Int.tdiv s0_1 2))) a1)
 have HB1 : Below w0.heap.size w0 W2 := by
  rw [← hW2]
  repeat (with_reducible first | exact HB.out | apply below_drew1 | refine below_set ?_ (IsS144.ge HI0.out))
 have HK1 : KeepBut w W2 g none := by
  rw [← hW2]
  repeat (with_reducible first | exact HK.out | apply keep_drew | apply KeepBut.set_)
 clear hW2 hc_0 hc_1 hc_2 hc_3 hf_0 hf_1 hf_2 hf_3
 replace HI1 := Aside0.mk HI1
 replace HB1 := Aside0.mk HB1
 replace HK1 := Aside0.mk HK1
 obtain ⟨HG, hg⟩ := HI1.out
 have hc_0 := cellS144_0 HG
 have hc_1 := cellS144_1 HG
 have hf_0 := blk_frozen HG 0
 clear HG hg
 simp only [List.take_succ_cons, List.take_zero, List.drop_succ_cons, List.drop_zero]
 repeat still_step
 try refine wpStill_nil ?_
 go_wp2
 (first | go_end0 | ((try simp only [Exit.inBlock, Exit.then]); refine bodyPost_ret (results_none rfl _ _ _) rfl ?_))
 exact ⟨by first | rfl | (simp; done), by repeat (first | (with_reducible first | exact HI1.out | apply IsS144.set_0) | exact HI1.out), by repeat (first | (with_reducible first | exact HB1.out | refine below_set ?_ (IsS144.ge HI1.out)) | exact HB1.out), by repeat (first | (with_reducible first | exact HK1.out | apply KeepBut.set_) | exact HK1.out)⟩

end Go.Proofs.Ytjplcongellcmaa.PFnStepsAdapt
