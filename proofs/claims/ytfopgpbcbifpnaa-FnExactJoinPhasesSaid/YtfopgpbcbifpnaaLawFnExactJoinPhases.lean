/- What each Go function that the statement FnExactJoinPhases reaches answers, proved call by call. No condition beyond those that the theorems print. (Written by wip/tools/xprint.py of this repo, over the kit's print.) -/
import Derived.Lib.SmallJoins
import Derived.Deep.Strs
import Derived.Deep.Slices
import Derived.Test.YtfopgpbcbifpnaaRows
import Derived.Test.YtfopgpbcbifpnaaPFnExactJoinPhasesx4
import Derived.Test.YtfopgpbcbifpnaaPureFnExactJoinPhases
import Derived.WalkKit
import Derived.ProofKit
import Derived.OpenShut
import Derived.ShutString
import Derived.ChangeOld
import Derived.Below
import Derived.SizedLaws
import Derived.Test.YtfopgpbcbifpnaaWSized
namespace Go.Proofs.Ytfopgpbcbifpnaa.fnExactJoinPhases
open Go.ChangeShapes Go.WideShapes Go.ChangeAt Go.RowKit
open Go.ChangeMaps (open_string shut_string)
set_option linter.unusedVariables false
theorem own : ownKnob Try.prog.godebug = none := by kernel_rfl
theorem laidOut : laidOutB Try.prog = true := by kernel_rfl
def IsRow (k : IntKind) (w : World) (a : Option Addr) (len cap : Nat) (zs : List Int) : Prop :=
  (a = none ∧ len = 0 ∧ cap = 0 ∧ zs = []) ∨
  ∃ x, a = some x ∧ len ≤ cap ∧ cap ≤ maxLen ∧ zs.length = cap ∧ (∀ i, i < zs.length → w.cell? (x.add i) = some (.int k (zs.getD i 0))) ∧ ∀ n ∈ zs, (Lit.int k n).wf = true
set_option linter.unusedSimpArgs false
open Go.Deep Go.Joins Go.Proofs.YtfopgpbcbifpnaaW.PrintWords Go.Proofs.YtfopgpbcbifpnaaW.PrintLast Go.Proofs.YtfopgpbcbifpnaaW.PrintMore Go.Proofs.Ytfopgpbcbifpnaa.PFnExactJoinPhases
theorem list_row {α H : Type} {enc : TypeId × Value → H} {P : Program} {W : World} {n : Nat} {t e : TypeId} {d : Kd α} {a : Option Addr} {len cap B : Nat} {y : DataW H × List MemPlace}
    (hu : P.underlying t = some (.slice e)) (hs : P.cellsOf e = d.sz) (he : ∀ n cs (y : DataW H × List MemPlace), cs.length = d.sz → DataW.trod enc P W 0 (fun _ => true) true n e cs = some y → ∃ x, d.K W x cs)
    (hB : P.bytesOf e = B) (hw : ∀ m ∈ y.1.weights P t, m ≤ reachBytes) (h : DataW.trod enc P W 0 (fun _ => true) true n t [.slice a len cap] = some y) :
    ∃ xs : List α, xs.length = len ∧ d.C W a xs.length xs ∧ len ≤ cap ∧ len * B ≤ 140737488351232 := by
  rcases Go.Deep.open_slice hu h with ⟨hcs, _⟩ | ⟨x, l, cp, m, n', D, Pl, hcs, _, hl, hm, hmm, rfl, hx⟩
  · simp at hcs
    obtain ⟨rfl, rfl, rfl⟩ := hcs
    exact ⟨[], rfl, Kd.C_nil _ _, Nat.le_refl _, by simp⟩
  · simp at hcs
    obtain ⟨rfl, rfl, rfl⟩ := hcs
    simp only [if_true] at hmm
    subst hmm
    have hwl : len * B ≤ 140737488351232 := by
      have z := hw ((((List.range len).map D).length + ((List.range (m - len)).map fun j => D (len + j)).length) * P.bytesOf e) (by simp [DataW.weights, hu])
      rw [hB] at z
      simp only [List.length_map, List.length_range] at z
      exact Nat.le_trans (Nat.mul_le_mul_right _ (by omega)) z
    by_cases h0 : len = 0
    · subst h0
      exact ⟨[], rfl, ⟨rfl, by simp, fun h => absurd h (Nat.lt_irrefl 0)⟩, hl, hwl⟩
    have each : ∀ i, i < len → ∃ z : α × List Value, d.K W z.1 z.2 ∧ ∀ j u, z.2[j]? = some u → W.cell? (x.add (i * d.sz + j)) = some u := by
      intro i hi
      obtain ⟨cs, h1, h2⟩ := hx i (by omega)
      rw [hs] at h1
      obtain ⟨_, hln, hcl⟩ := World.cells?_some h1
      obtain ⟨p, hp⟩ := he _ _ _ hln h2
      refine ⟨(p, cs), hp, fun j u hj => ?_⟩
      have hj' : j < d.sz := by rw [← hln]; exact (List.getElem?_eq_some_iff.1 hj).1
      rw [← hj, ← hcl j hj', Go.Deep.add_add]
    haveI : Inhabited α := ⟨(Classical.choose (each 0 (by omega))).1⟩
    obtain ⟨f, hf⟩ := Go.Deep.choose_lt each
    refine ⟨(List.range len).map fun i => (f i).1, by simp, ?_, hl, hwl⟩
    refine ⟨by simp, by simp only [List.length_map, List.length_range]; unfold maxLen at hm; omega, fun _ => ⟨x, rfl, fun j p hj => ?_⟩⟩
    obtain ⟨hj1, hj2⟩ := List.getElem?_eq_some_iff.1 hj
    simp only [List.length_map, List.length_range] at hj1
    simp only [List.getElem_map, List.getElem_range] at hj2
    subst hj2
    obtain ⟨k1, k2⟩ := hf j hj1
    exact ⟨(f j).2, d.K_len k1, k1, k2⟩
theorem int_el {H : Type} {enc : TypeId × Value → H} {P : Program} {W : World} {e q : TypeId} {k : IntKind} (he : P.underlying e = some (.slice q)) (hq : P.underlying q = some (.int k)) (cq : P.cellsOf q = 1) :
    ∀ n cs (y : DataW H × List MemPlace), cs.length = (Kd.slice q (Kd.int k)).sz → DataW.trod enc P W 0 (fun _ => true) true n e cs = some y → ∃ x, (Kd.slice q (Kd.int k)).K W x cs := by
  intro n cs y _ h
  rcases open_ints he hq cq h with ⟨hcs, _⟩ | ⟨x, l, cp, zs, hcs, _, hl, hm, hz, _, hcell, hwz⟩
  · subst hcs
    exact ⟨[], none, 0, rfl, Nat.zero_le _, Kd.C_nil _ _⟩
  · obtain ⟨xs, rfl, hr, _, _, hc'⟩ := ReadsInt.ofRowC (a := some x) (len := l) (cap := cp) (zs := zs) (.inr ⟨x, rfl, hl, hm, by simpa using hz, hcell, hwz⟩)
    exact ⟨xs, some x, cp, hcs, hc', Kd.C_of_reads hr⟩
set_option maxRecDepth 100000 in
theorem lifted (os : Os) (started : os.Started) (H : Type) (enc : TypeId × Value → H) :
    ReturnsInHanded {} Try.checked os 4 .any (Rows.fnExactJoinPhasesSpec.pre6 enc Try.prog Try.f4 Rows.fnExactJoinPhasesRow.domain false) (Rows.fnExactJoinPhasesSpec.post enc Try.prog Try.f4 false true false false) := by
  refine returnsInHanded_of_change_sized (C := Try.checked) own started (by kernel_rfl) Try.func4
    (ChangeSpec.witness6 (enc := enc) (C := Try.checked) false ⟨#[], #[.slice none 0 0], []⟩ 8 (by kernel_rfl) (by kernel_rfl) (by kernel_rfl) (by kernel_rfl)) ?_
  intro W base args ds gs before hval0 hW hcnd hsz0 _
  have hsz : (DataW.weightsEach Try.prog (Try.f4.params.toList ++ Rows.fnExactJoinPhasesSpec.plain.varTypes Try.prog) (ds ++ gs)).all (· ≤ reachBytes) = true := hsz0
  have hval : ∀ (j : Nat) t v, Try.f4.params[j]? = some t → args[j]? = some v → Value.okWide Try.prog W .any base t v := hval0
  have hW' := hW
  obtain ⟨p, q, hA0, hV, rfl, hfz, hnd⟩ := hW
  have hA : DataW.TrodAll enc Try.prog W 0 (fun _ => true) true Try.f4.params.toList args.toList ds p := hA0
  rw [Try.params4] at hA hval hsz
  obtain ⟨v0, vs0, d0, ds0, p0, q0, hargs, rfl, rfl, h0, r0⟩ := trodAll_cons hA
  obtain ⟨rfl, rfl, rfl⟩ := trodAll_nil r0
  obtain rfl : args = #[v0] := by cases args; simp_all
  obtain ⟨rfl, rfl⟩ := trodVars_none hV
  obtain ⟨a0, len0, cap0, rfl⟩ := okWide_slice Try.underlying23 (hval 0 23 v0 rfl rfl)
  have k0 := h0
  have lt0 : ∀ x ∈ p0, x.block < W.heap.size := by obtain ⟨m, hm⟩ := k0; exact DataW.trod_lt m _ _ _ hm
  have hwt0 : ∀ m ∈ d0.weights Try.prog 23, m ≤ reachBytes := fun m hm => by simpa using List.all_eq_true.1 hsz _ (DataW.weights_mem_each (j := 0) (t := 23) rfl rfl m hm)
  obtain ⟨n0, hf0⟩ := h0
  have hg0 : DataW.trod enc Try.prog W 0 (fun _ => true) true n0 23 [.slice a0 len0 cap0] = some (d0, p0) := by simpa [Value.cells] using hf0
  obtain ⟨l0, rfl, w0, c0, y0⟩ := list_row (d := (Kd.slice 3 (Kd.int .i64))) (B := 24) Try.underlying23 (by kernel_rfl) (int_el Try.underlying22 Try.underlying3 (by kernel_rfl)) (by kernel_rfl) hwt0 hg0
  clear hA0 hval0 hsz0 hsz
  refine (PFnExactJoinPhases.laws_FnExactJoinPhases.walk Pure.FnExactJoinPhases a0 cap0 l0 W w0 c0 y0).mono fun e W' ⟨he, bel⟩ => ?_
  subst he
  exact ⟨_, rfl, _, _, _, [], _, [], hW', trodAll_mk1 (shut_bool Try.underlying4 _), (trodAll_cons_mk (Below.trod laidOut (by kernel_rfl) (of_decide_eq_true (by kernel_rfl)) k0 bel lt0) trodAll_mk0), rfl, bel.frame _, fun h => by cases h⟩
theorem over : Rows.fnExactJoinPhasesRow.holds Try.pinned (OpenSpec.ofChange Rows.fnExactJoinPhasesSpec) :=
  OpenClaim.holds_of_wide 4 Try.f4 rfl rfl rfl rfl rfl rfl rfl ⟨rfl, rfl, rfl, rfl, rfl⟩ rfl rfl rfl rfl rfl (by kernel_rfl) Try.func4 (by kernel_rfl)
    (of_decide_eq_true (by kernel_rfl)) (by unfold Func.isWrapper; first | (rw [if_pos (by decide +kernel)]; kernel_rfl) | (rw [if_neg (by decide +kernel)]; exact ⟨rfl, rfl⟩))
    (fun os started H enc _ => lifted os started H enc)
theorem proved : Rows.FnExactJoinPhasesSaid := over
#print axioms proved
end Go.Proofs.Ytfopgpbcbifpnaa.fnExactJoinPhases
namespace Go.Proofs.Ytfopgpbcbifpnaa
/-- The row, under a short name, for the claim. -/
theorem fnExactJoinPhases_holds : Rows.FnExactJoinPhasesSaid := fnExactJoinPhases.proved
end Go.Proofs.Ytfopgpbcbifpnaa
