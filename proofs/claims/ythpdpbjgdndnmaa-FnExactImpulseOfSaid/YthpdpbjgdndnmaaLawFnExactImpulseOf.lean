/- What each Go function that the statement FnExactImpulseOf reaches answers, proved call by call. No condition beyond those that the theorems print. (Written by wip/tools/xprint.py of this repo, over the kit's print.) -/
import Derived.Lib.SmallJoins
import Derived.Deep.Strs
import Derived.Test.YthpdpbjgdndnmaaRows
import Derived.Test.YthpdpbjgdndnmaaPFnExactImpulseOfx4
import Derived.Test.YthpdpbjgdndnmaaPureFnExactImpulseOf
import Derived.WalkKit
import Derived.ProofKit
import Derived.OpenShut
import Derived.ShutString
import Derived.ChangeOld
import Derived.Below
import Derived.SizedLaws
import Derived.Test.YthpdpbjgdndnmaaWSized
namespace Go.Proofs.Ythpdpbjgdndnmaa.fnExactImpulseOf
open Go.ChangeShapes Go.WideShapes Go.ChangeAt Go.RowKit
open Go.ChangeMaps (open_string shut_string)
set_option linter.unusedVariables false
theorem own : ownKnob Try.prog.godebug = none := by kernel_rfl
theorem laidOut : laidOutB Try.prog = true := by kernel_rfl
def IsRow (k : IntKind) (w : World) (a : Option Addr) (len cap : Nat) (zs : List Int) : Prop :=
  (a = none ∧ len = 0 ∧ cap = 0 ∧ zs = []) ∨
  ∃ x, a = some x ∧ len ≤ cap ∧ cap ≤ maxLen ∧ zs.length = cap ∧ (∀ i, i < zs.length → w.cell? (x.add i) = some (.int k (zs.getD i 0))) ∧ ∀ n ∈ zs, (Lit.int k n).wf = true
open Go.Joins
set_option linter.unusedSimpArgs false
theorem array5 {α : Type} {a : Array α} (h : a.size = 5) : ∃ x0 x1 x2 x3 x4, a = #[x0, x1, x2, x3, x4] := by
  obtain ⟨l⟩ := a
  match l, h with
  | [x0, x1, x2, x3, x4], _ => exact ⟨x0, x1, x2, x3, x4, rfl⟩
theorem field_row {H : Type} {enc : TypeId × Value → H} {P : Program} {W : World} {n : Nat} {t e : TypeId} {k : IntKind} {c : Value} {y : DataW H × List MemPlace}
    (hu : P.underlying t = some (.slice e)) (he : P.underlying e = some (.int k)) (hc : P.cellsOf e = 1) {B : Nat} (hB : P.bytesOf e = B) (hw : ∀ m ∈ y.1.weights P t, m ≤ reachBytes) (h : DataW.trod enc P W 0 (fun _ => true) true n t [c] = some y) :
    ∃ a len cap zs, c = .slice a len cap ∧ IsRow k W a len cap zs ∧ len * B ≤ 140737488351232 := by
  rcases open_ints hu he hc h with ⟨hcs, _⟩ | ⟨x, l, cp, zs, hcs, _, hl, hm, hz, hx, hcell, hwz⟩
  · simp at hcs
    subst hcs
    exact ⟨none, 0, 0, [], rfl, .inl ⟨rfl, rfl, rfl, rfl⟩, by simp⟩
  · simp at hcs
    subst hcs hx
    have hz2 : zs.length = cp := by simpa using hz
    have z := hw (((lits (H := H) k (zs.take l)).length + (lits (H := H) k (zs.drop l)).length) * P.bytesOf e) (by simp [DataW.weights, hu])
    have h1 : (lits (H := H) k (zs.take l)).length + (lits (H := H) k (zs.drop l)).length = zs.length := by
      simp [lits]
      omega
    rw [h1, hB] at z
    exact ⟨some x, l, cp, zs, rfl, .inr ⟨x, rfl, hl, hm, hz2, hcell, hwz⟩, Nat.le_trans (Nat.mul_le_mul_right _ (by omega)) z⟩
set_option maxRecDepth 100000 in
theorem lifted (os : Os) (started : os.Started) (H : Type) (enc : TypeId × Value → H) :
    ReturnsInHanded {} Try.checked os 3 .any (Rows.fnExactImpulseOfSpec.pre6 enc Try.prog Try.f3 Rows.fnExactImpulseOfRow.domain false) (Rows.fnExactImpulseOfSpec.post enc Try.prog Try.f3 false true false false) := by
  refine returnsInHanded_of_change_sized (C := Try.checked) own started (by kernel_rfl) Try.func3
    (ChangeSpec.witness6 (enc := enc) (C := Try.checked) false ⟨#[], #[.agg #[.int .i64 0, .int .i64 0, .int .i64 0, .int .i64 0, .bool false], .int .i64 0, .int .i64 0], []⟩ 8 (by kernel_rfl) (by kernel_rfl) (by kernel_rfl) (by kernel_rfl)) ?_
  intro W base args ds gs before hval0 hW hcnd hsz0 _
  have hsz : (DataW.weightsEach Try.prog (Try.f3.params.toList ++ Rows.fnExactImpulseOfSpec.plain.varTypes Try.prog) (ds ++ gs)).all (· ≤ reachBytes) = true := hsz0
  have hval : ∀ (j : Nat) t v, Try.f3.params[j]? = some t → args[j]? = some v → Value.okWide Try.prog W .any base t v := hval0
  have hW' := hW
  obtain ⟨p, q, hA0, hV, rfl, hfz, hnd⟩ := hW
  have hA : DataW.TrodAll enc Try.prog W 0 (fun _ => true) true Try.f3.params.toList args.toList ds p := hA0
  rw [Try.params3] at hA hval hsz
  obtain ⟨v0, vs0, d0, ds0, p0, q0, hargs, rfl, rfl, h0, r0⟩ := trodAll_cons hA
  obtain ⟨v1, vs1, d1, ds1, p1, q1, rfl, rfl, rfl, h1, r1⟩ := trodAll_cons r0
  obtain ⟨v2, vs2, d2, ds2, p2, q2, rfl, rfl, rfl, h2, r2⟩ := trodAll_cons r1
  obtain ⟨rfl, rfl, rfl⟩ := trodAll_nil r2
  obtain rfl : args = #[v0, v1, v2] := by cases args; simp_all
  obtain ⟨rfl, rfl⟩ := trodVars_none hV
  have k0 := h0
  have lt0 : ∀ x ∈ p0, x.block < W.heap.size := by obtain ⟨m, hm⟩ := k0; exact DataW.trod_lt m _ _ _ hm
  obtain ⟨cs0, rfl, hn0⟩ := okWide_struct Try.underlying25 (hval 0 25 v0 rfl rfl)
  obtain ⟨c0_0, c0_1, c0_2, c0_3, c0_4, rfl⟩ := array5 (hn0.trans (by kernel_rfl : Try.prog.cellsOf 25 = 5))
  have hwt0 : ∀ m ∈ d0.weights Try.prog 25, m ≤ reachBytes := fun m hm => by simpa using List.all_eq_true.1 hsz _ (DataW.weights_mem_each (j := 0) (t := 25) rfl rfl m hm)
  obtain ⟨n0, hf0⟩ := h0
  have hg0 : DataW.trod enc Try.prog W 0 (fun _ => true) true n0 25 [c0_0, c0_1, c0_2, c0_3, c0_4] = some (d0, p0) := by simpa [Value.cells] using hf0
  obtain ⟨q0_0, q0_1, q0_2, q0_3, m0, hx0, _, g0_0, g0_1, g0_2, g0_3⟩ := trod_struct4 Try.underlying25 hg0
  obtain ⟨rfl, rfl⟩ := Prod.mk.inj hx0
  have w0_0_ : ∀ m ∈ q0_0.1.weights Try.prog 3, m ≤ reachBytes := fun m hm => hwt0 m (by simp [DataW.weights, Try.underlying25, DataW.weightsEach, hm])
  have e0_0 : Try.prog.cellsOf 3 = 1 := by kernel_rfl
  have b0_0 : DataW.trod enc Try.prog W 0 (fun _ => true) true m0 3 [c0_0] = some q0_0 := by
    have g := g0_0
    simp only [e0_0, List.drop_zero, List.drop_succ_cons, List.take_succ_cons, List.take_zero, List.take_nil] at g
    exact g
  obtain ⟨a0_0, he0_0, _, w0_0⟩ := DataW.trod_int Try.underlying3 b0_0
  obtain rfl := (List.cons.inj he0_0).1
  have w0_1_ : ∀ m ∈ q0_1.1.weights Try.prog 3, m ≤ reachBytes := fun m hm => hwt0 m (by simp [DataW.weights, Try.underlying25, DataW.weightsEach, hm])
  have e0_1 : Try.prog.cellsOf 3 = 1 := by kernel_rfl
  have b0_1 : DataW.trod enc Try.prog W 0 (fun _ => true) true m0 3 [c0_1] = some q0_1 := by
    have g := g0_1
    simp only [e0_1, List.drop_zero, List.drop_succ_cons, List.take_succ_cons, List.take_zero, List.take_nil] at g
    exact g
  obtain ⟨a0_1, he0_1, _, w0_1⟩ := DataW.trod_int Try.underlying3 b0_1
  obtain rfl := (List.cons.inj he0_1).1
  have w0_2_ : ∀ m ∈ q0_2.1.weights Try.prog 3, m ≤ reachBytes := fun m hm => hwt0 m (by simp [DataW.weights, Try.underlying25, DataW.weightsEach, hm])
  have e0_2 : Try.prog.cellsOf 3 = 1 := by kernel_rfl
  have b0_2 : DataW.trod enc Try.prog W 0 (fun _ => true) true m0 3 [c0_2] = some q0_2 := by
    have g := g0_2
    simp only [e0_2, List.drop_zero, List.drop_succ_cons, List.take_succ_cons, List.take_zero, List.take_nil] at g
    exact g
  obtain ⟨a0_2, he0_2, _, w0_2⟩ := DataW.trod_int Try.underlying3 b0_2
  obtain rfl := (List.cons.inj he0_2).1
  have w0_3_ : ∀ m ∈ q0_3.1.weights Try.prog 23, m ≤ reachBytes := fun m hm => hwt0 m (by simp [DataW.weights, Try.underlying25, DataW.weightsEach, hm])
  have e0_3 : Try.prog.cellsOf 23 = 2 := by kernel_rfl
  have b0_3 : DataW.trod enc Try.prog W 0 (fun _ => true) true m0 23 [c0_3, c0_4] = some q0_3 := by
    have g := g0_3
    simp only [e0_3, List.drop_zero, List.drop_succ_cons, List.take_succ_cons, List.take_zero, List.take_nil] at g
    exact g
  obtain ⟨q0_3_0, q0_3_1, m0_3, hx0_3, _, g0_3_0, g0_3_1⟩ := trod_struct2 Try.underlying23 b0_3
  subst hx0_3
  have w0_3_0_ : ∀ m ∈ q0_3_0.1.weights Try.prog 3, m ≤ reachBytes := fun m hm => w0_3_ m (by simp [DataW.weights, Try.underlying23, DataW.weightsEach, hm])
  have e0_3_0 : Try.prog.cellsOf 3 = 1 := by kernel_rfl
  have b0_3_0 : DataW.trod enc Try.prog W 0 (fun _ => true) true m0_3 3 [c0_3] = some q0_3_0 := by
    have g := g0_3_0
    simp only [e0_3_0, List.drop_zero, List.drop_succ_cons, List.take_succ_cons, List.take_zero, List.take_nil] at g
    exact g
  obtain ⟨a0_3, he0_3, _, w0_3⟩ := DataW.trod_int Try.underlying3 b0_3_0
  obtain rfl := (List.cons.inj he0_3).1
  have w0_3_1_ : ∀ m ∈ q0_3_1.1.weights Try.prog 4, m ≤ reachBytes := fun m hm => w0_3_ m (by simp [DataW.weights, Try.underlying23, DataW.weightsEach, hm])
  have e0_3_1 : Try.prog.cellsOf 4 = 1 := by kernel_rfl
  have b0_3_1 : DataW.trod enc Try.prog W 0 (fun _ => true) true m0_3 4 [c0_4] = some q0_3_1 := by
    have g := g0_3_1
    simp only [e0_3_1, List.drop_zero, List.drop_succ_cons, List.take_succ_cons, List.take_zero, List.take_nil] at g
    exact g
  obtain ⟨a0_4, he0_4, _⟩ := DataW.trod_bool Try.underlying4 b0_3_1
  obtain rfl := (List.cons.inj he0_4).1
  obtain ⟨a1, rfl, rfl, rfl, w1⟩ := open_int Try.underlying3 (hval 1 3 v1 rfl rfl) h1
  obtain ⟨a2, rfl, rfl, rfl, w2⟩ := open_int Try.underlying3 (hval 2 3 v2 rfl rfl) h2
  clear hA0 hval0 hsz0 hsz
  refine (PFnExactImpulseOf.laws_FnExactImpulseOf.walk Pure.FnExactImpulseOf a0_0 a0_1 a0_2 a0_3 a0_4 a1 a2 W w0_0 w0_1 w0_2 w0_3 w1 w2).mono fun e W' ⟨he, bel⟩ => ?_
  subst he
  exact ⟨_, rfl, _, _, _, [], _, [], hW', trodAll_mk1 (shut_bool Try.underlying4 _), (trodAll_cons_mk (Below.trod laidOut (by kernel_rfl) (of_decide_eq_true (by kernel_rfl)) k0 bel lt0) (trodAll_cons_mk (shut_int Try.underlying3 w1) (trodAll_cons_mk (shut_int Try.underlying3 w2) trodAll_mk0))), rfl, bel.frame _, fun h => by cases h⟩
theorem over : Rows.fnExactImpulseOfRow.holds Try.pinned (OpenSpec.ofChange Rows.fnExactImpulseOfSpec) :=
  OpenClaim.holds_of_wide 3 Try.f3 rfl rfl rfl rfl rfl rfl rfl ⟨rfl, rfl, rfl, rfl, rfl⟩ rfl rfl rfl rfl rfl (by kernel_rfl) Try.func3 (by kernel_rfl)
    (of_decide_eq_true (by kernel_rfl)) (by unfold Func.isWrapper; first | (rw [if_pos (by decide +kernel)]; kernel_rfl) | (rw [if_neg (by decide +kernel)]; exact ⟨rfl, rfl⟩))
    (fun os started H enc _ => lifted os started H enc)
theorem proved : Rows.FnExactImpulseOfSaid := over
#print axioms proved
end Go.Proofs.Ythpdpbjgdndnmaa.fnExactImpulseOf
namespace Go.Proofs.Ythpdpbjgdndnmaa
/-- The row, under a short name, for the claim. -/
theorem fnExactImpulseOf_holds : Rows.FnExactImpulseOfSaid := fnExactImpulseOf.proved
end Go.Proofs.Ythpdpbjgdndnmaa
