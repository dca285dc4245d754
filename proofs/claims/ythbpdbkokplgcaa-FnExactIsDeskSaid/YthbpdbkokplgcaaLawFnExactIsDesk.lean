/- What each Go function that the statement FnExactIsDesk reaches answers, proved call by call. No condition beyond those that the theorems print. (Written by wip/tools/xprint.py of this repo, over the kit's print.) -/
import Derived.Lib.SmallJoins
import Derived.Deep.Strs
import Derived.Test.YthbpdbkokplgcaaRows
import Derived.Test.YthbpdbkokplgcaaPFnExactIsDeskx2
import Derived.Test.YthbpdbkokplgcaaPureFnExactIsDesk
import Derived.WalkKit
import Derived.ProofKit
import Derived.OpenShut
import Derived.ShutString
import Derived.ChangeOld
import Derived.Below
import Derived.SizedLaws
import Derived.Test.YthbpdbkokplgcaaWSized
namespace Go.Proofs.Ythbpdbkokplgcaa.fnExactIsDesk
open Go.ChangeShapes Go.WideShapes Go.ChangeAt Go.RowKit
open Go.ChangeMaps (open_string shut_string)
set_option linter.unusedVariables false
theorem own : ownKnob Try.prog.godebug = none := by kernel_rfl
theorem laidOut : laidOutB Try.prog = true := by kernel_rfl
def IsRow (k : IntKind) (w : World) (a : Option Addr) (len cap : Nat) (zs : List Int) : Prop :=
  (a = none ∧ len = 0 ∧ cap = 0 ∧ zs = []) ∨
  ∃ x, a = some x ∧ len ≤ cap ∧ cap ≤ maxLen ∧ zs.length = cap ∧ (∀ i, i < zs.length → w.cell? (x.add i) = some (.int k (zs.getD i 0))) ∧ ∀ n ∈ zs, (Lit.int k n).wf = true
open Go.Joins
set_option linter.unusedSimpArgs false
theorem field_row {H : Type} {enc : TypeId × Value → H} {P : Program} {W : World} {n : Nat} {t e : TypeId} {k : IntKind} {c : Value} {y : DataW H × List MemPlace}
    (hu : P.underlying t = some (.slice e)) (he : P.underlying e = some (.int k)) (hc : P.cellsOf e = 1) {B : Nat} (hB : P.bytesOf e = B) (hw : ∀ m ∈ y.1.weights P t, m ≤ reachBytes) (h : DataW.trod enc P W 0 (fun _ => true) true n t [c] = some y) :
    ∃ a len cap zs, c = .slice a len cap ∧ IsRow k W a len cap zs ∧ len * B ≤ 140737488351232 := by
  rcases open_ints hu he hc h with ⟨hcs, _⟩ | ⟨x, l, cp, zs, hcs, _, hl, hm, hz, hx, hcell, hwz⟩
  · simp at hcs
    subst hcs
    exact ⟨none, 0, 0, [], rfl, .inl ⟨rfl, rfl, rfl, rfl⟩, by simp⟩
  · simp at hcs
    subst hcs hx
    have hz2 : zs.length = cp := by simpa using hz
    have z := hw (((lits (H := H) k (zs.take l)).length + (lits (H := H) k (zs.drop l)).length) * P.bytesOf e) (by simp [DataW.weights, hu])
    have h1 : (lits (H := H) k (zs.take l)).length + (lits (H := H) k (zs.drop l)).length = zs.length := by
      simp [lits]
      omega
    rw [h1, hB] at z
    exact ⟨some x, l, cp, zs, rfl, .inr ⟨x, rfl, hl, hm, hz2, hcell, hwz⟩, Nat.le_trans (Nat.mul_le_mul_right _ (by omega)) z⟩
set_option maxRecDepth 100000 in
theorem lifted (os : Os) (started : os.Started) (H : Type) (enc : TypeId × Value → H) :
    ReturnsInHanded {} Try.checked os 6 .any (Rows.fnExactIsDeskSpec.pre6 enc Try.prog Try.f6 Rows.fnExactIsDeskRow.domain false) (Rows.fnExactIsDeskSpec.post enc Try.prog Try.f6 false true false false) := by
  refine returnsInHanded_of_change_sized (C := Try.checked) own started (by kernel_rfl) Try.func6
    (ChangeSpec.witness6 (enc := enc) (C := Try.checked) false ⟨#[], #[.agg #[.slice none 0 0, .int .i64 0, .bool false]], []⟩ 8 (by kernel_rfl) (by kernel_rfl) (by kernel_rfl) (by kernel_rfl)) ?_
  intro W base args ds gs before hval0 hW hcnd hsz0 _
  have hsz : (DataW.weightsEach Try.prog (Try.f6.params.toList ++ Rows.fnExactIsDeskSpec.plain.varTypes Try.prog) (ds ++ gs)).all (· ≤ reachBytes) = true := hsz0
  have hval : ∀ (j : Nat) t v, Try.f6.params[j]? = some t → args[j]? = some v → Value.okWide Try.prog W .any base t v := hval0
  have hW' := hW
  obtain ⟨p, q, hA0, hV, rfl, hfz, hnd⟩ := hW
  have hA : DataW.TrodAll enc Try.prog W 0 (fun _ => true) true Try.f6.params.toList args.toList ds p := hA0
  rw [Try.params6] at hA hval hsz
  obtain ⟨v0, vs0, d0, ds0, p0, q0, hargs, rfl, rfl, h0, r0⟩ := trodAll_cons hA
  obtain ⟨rfl, rfl, rfl⟩ := trodAll_nil r0
  obtain rfl : args = #[v0] := by cases args; simp_all
  obtain ⟨rfl, rfl⟩ := trodVars_none hV
  have k0 := h0
  have lt0 : ∀ x ∈ p0, x.block < W.heap.size := by obtain ⟨m, hm⟩ := k0; exact DataW.trod_lt m _ _ _ hm
  obtain ⟨cs0, rfl, hn0⟩ := okWide_struct Try.underlying40 (hval 0 40 v0 rfl rfl)
  obtain ⟨c0_0, c0_1, c0_2, rfl⟩ := array3 (hn0.trans (by kernel_rfl : Try.prog.cellsOf 40 = 3))
  have hwt0 : ∀ m ∈ d0.weights Try.prog 40, m ≤ reachBytes := fun m hm => by simpa using List.all_eq_true.1 hsz _ (DataW.weights_mem_each (j := 0) (t := 40) rfl rfl m hm)
  obtain ⟨n0, hf0⟩ := h0
  have hg0 : DataW.trod enc Try.prog W 0 (fun _ => true) true n0 40 [c0_0, c0_1, c0_2] = some (d0, p0) := by simpa [Value.cells] using hf0
  obtain ⟨q0_0, q0_1, m0, hx0, _, g0_0, g0_1⟩ := trod_struct2 Try.underlying40 hg0
  obtain ⟨rfl, rfl⟩ := Prod.mk.inj hx0
  have w0_0_ : ∀ m ∈ q0_0.1.weights Try.prog 22, m ≤ reachBytes := fun m hm => hwt0 m (by simp [DataW.weights, Try.underlying40, DataW.weightsEach, hm])
  have e0_0 : Try.prog.cellsOf 22 = 1 := by kernel_rfl
  have b0_0 : DataW.trod enc Try.prog W 0 (fun _ => true) true m0 22 [c0_0] = some q0_0 := by
    have g := g0_0
    simp only [e0_0, List.drop_zero, List.drop_succ_cons, List.take_succ_cons, List.take_zero, List.take_nil] at g
    exact g
  obtain ⟨a0_0, len0_0, cap0_0, z0_0, rfl, w0_0, y0_0⟩ := field_row Try.underlying22 Try.underlying3 (by kernel_rfl) (by kernel_rfl : Try.prog.bytesOf 3 = 8) w0_0_ b0_0
  have w0_1_ : ∀ m ∈ q0_1.1.weights Try.prog 38, m ≤ reachBytes := fun m hm => hwt0 m (by simp [DataW.weights, Try.underlying40, DataW.weightsEach, hm])
  have e0_1 : Try.prog.cellsOf 38 = 2 := by kernel_rfl
  have b0_1 : DataW.trod enc Try.prog W 0 (fun _ => true) true m0 38 [c0_1, c0_2] = some q0_1 := by
    have g := g0_1
    simp only [e0_1, List.drop_zero, List.drop_succ_cons, List.take_succ_cons, List.take_zero, List.take_nil] at g
    exact g
  obtain ⟨q0_1_0, q0_1_1, m0_1, hx0_1, _, g0_1_0, g0_1_1⟩ := trod_struct2 Try.underlying38 b0_1
  subst hx0_1
  have w0_1_0_ : ∀ m ∈ q0_1_0.1.weights Try.prog 3, m ≤ reachBytes := fun m hm => w0_1_ m (by simp [DataW.weights, Try.underlying38, DataW.weightsEach, hm])
  have e0_1_0 : Try.prog.cellsOf 3 = 1 := by kernel_rfl
  have b0_1_0 : DataW.trod enc Try.prog W 0 (fun _ => true) true m0_1 3 [c0_1] = some q0_1_0 := by
    have g := g0_1_0
    simp only [e0_1_0, List.drop_zero, List.drop_succ_cons, List.take_succ_cons, List.take_zero, List.take_nil] at g
    exact g
  obtain ⟨a0_1, he0_1, _, w0_1⟩ := DataW.trod_int Try.underlying3 b0_1_0
  obtain rfl := (List.cons.inj he0_1).1
  have w0_1_1_ : ∀ m ∈ q0_1_1.1.weights Try.prog 4, m ≤ reachBytes := fun m hm => w0_1_ m (by simp [DataW.weights, Try.underlying38, DataW.weightsEach, hm])
  have e0_1_1 : Try.prog.cellsOf 4 = 1 := by kernel_rfl
  have b0_1_1 : DataW.trod enc Try.prog W 0 (fun _ => true) true m0_1 4 [c0_2] = some q0_1_1 := by
    have g := g0_1_1
    simp only [e0_1_1, List.drop_zero, List.drop_succ_cons, List.take_succ_cons, List.take_zero, List.take_nil] at g
    exact g
  obtain ⟨a0_2, he0_2, _⟩ := DataW.trod_bool Try.underlying4 b0_1_1
  obtain rfl := (List.cons.inj he0_2).1
  clear hA0 hval0 hsz0 hsz
  refine (PFnExactIsDesk.laws_FnExactIsDesk.walk Pure.FnExactIsDesk a0_0 len0_0 cap0_0 z0_0 a0_1 a0_2 W w0_0 y0_0 w0_1).mono fun e W' ⟨he, bel⟩ => ?_
  subst he
  exact ⟨_, rfl, _, _, _, [], _, [], hW', trodAll_mk1 (shut_bool Try.underlying4 _), (trodAll_cons_mk (Below.trod laidOut (by kernel_rfl) (of_decide_eq_true (by kernel_rfl)) k0 bel lt0) trodAll_mk0), rfl, bel.frame _, fun h => by cases h⟩
theorem over : Rows.fnExactIsDeskRow.holds Try.pinned (OpenSpec.ofChange Rows.fnExactIsDeskSpec) :=
  OpenClaim.holds_of_wide 6 Try.f6 rfl rfl rfl rfl rfl rfl rfl ⟨rfl, rfl, rfl, rfl, rfl⟩ rfl rfl rfl rfl rfl (by kernel_rfl) Try.func6 (by kernel_rfl)
    (of_decide_eq_true (by kernel_rfl)) (by unfold Func.isWrapper; first | (rw [if_pos (by decide +kernel)]; kernel_rfl) | (rw [if_neg (by decide +kernel)]; exact ⟨rfl, rfl⟩))
    (fun os started H enc _ => lifted os started H enc)
theorem proved : Rows.FnExactIsDeskSaid := over
#print axioms proved
end Go.Proofs.Ythbpdbkokplgcaa.fnExactIsDesk
namespace Go.Proofs.Ythbpdbkokplgcaa
/-- The row, under a short name, for the claim. -/
theorem fnExactIsDesk_holds : Rows.FnExactIsDeskSaid := fnExactIsDesk.proved
end Go.Proofs.Ythbpdbkokplgcaa
