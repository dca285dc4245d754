/- What each Go function that the statement FnExactChainSignals reaches answers, proved call by call. No condition beyond those that the theorems print. (Written by wip/tools/xprint.py of this repo, over the kit's print.) -/
import Derived.Lib.SmallJoins
import Derived.Deep.Strs
import Derived.Deep.Slices
import Derived.Test.YthpdpbjgdndnmaaRows
import Derived.Test.YthpdpbjgdndnmaaPFnExactChainSignalsx7
import Derived.Test.YthpdpbjgdndnmaaPureFnExactChainSignals
import Derived.WalkKit
import Derived.ProofKit
import Derived.OpenShut
import Derived.ShutString
import Derived.ChangeOld
import Derived.Below
import Derived.SizedLaws
import Derived.Test.YthpdpbjgdndnmaaWSized
namespace Go.Proofs.Ythpdpbjgdndnmaa.fnExactChainSignals
open Go.ChangeShapes Go.WideShapes Go.ChangeAt Go.RowKit
open Go.ChangeMaps (open_string shut_string)
set_option linter.unusedVariables false
theorem own : ownKnob Try.prog.godebug = none := by kernel_rfl
theorem laidOut : laidOutB Try.prog = true := by kernel_rfl
def IsRow (k : IntKind) (w : World) (a : Option Addr) (len cap : Nat) (zs : List Int) : Prop :=
  (a = none ∧ len = 0 ∧ cap = 0 ∧ zs = []) ∨
  ∃ x, a = some x ∧ len ≤ cap ∧ cap ≤ maxLen ∧ zs.length = cap ∧ (∀ i, i < zs.length → w.cell? (x.add i) = some (.int k (zs.getD i 0))) ∧ ∀ n ∈ zs, (Lit.int k n).wf = true
set_option linter.unusedSimpArgs false
open Go.Deep Go.Joins Go.Proofs.YthpdpbjgdndnmaaW.PrintWords Go.Proofs.YthpdpbjgdndnmaaW.PrintLast Go.Proofs.YthpdpbjgdndnmaaW.PrintMore Go.Proofs.Ythpdpbjgdndnmaa.PFnExactChainSignals
theorem list_row {α H : Type} {enc : TypeId × Value → H} {P : Program} {W : World} {n : Nat} {t e : TypeId} {d : Kd α} {a : Option Addr} {len cap B : Nat} {y : DataW H × List MemPlace}
    (hu : P.underlying t = some (.slice e)) (hs : P.cellsOf e = d.sz) (he : ∀ n cs (y : DataW H × List MemPlace), cs.length = d.sz → DataW.trod enc P W 0 (fun _ => true) true n e cs = some y → ∃ x, d.K W x cs)
    (hB : P.bytesOf e = B) (hw : ∀ m ∈ y.1.weights P t, m ≤ reachBytes) (h : DataW.trod enc P W 0 (fun _ => true) true n t [.slice a len cap] = some y) :
    ∃ xs : List α, xs.length = len ∧ d.C W a xs.length xs ∧ len ≤ cap ∧ len * B ≤ 140737488351232 := by
  rcases Go.Deep.open_slice hu h with ⟨hcs, _⟩ | ⟨x, l, cp, m, n', D, Pl, hcs, _, hl, hm, hmm, rfl, hx⟩
  · simp at hcs
    obtain ⟨rfl, rfl, rfl⟩ := hcs
    exact ⟨[], rfl, Kd.C_nil _ _, Nat.le_refl _, by simp⟩
  · simp at hcs
    obtain ⟨rfl, rfl, rfl⟩ := hcs
    simp only [if_true] at hmm
    subst hmm
    have hwl : len * B ≤ 140737488351232 := by
      have z := hw ((((List.range len).map D).length + ((List.range (m - len)).map fun j => D (len + j)).length) * P.bytesOf e) (by simp [DataW.weights, hu])
      rw [hB] at z
      simp only [List.length_map, List.length_range] at z
      exact Nat.le_trans (Nat.mul_le_mul_right _ (by omega)) z
    by_cases h0 : len = 0
    · subst h0
      exact ⟨[], rfl, ⟨rfl, by simp, fun h => absurd h (Nat.lt_irrefl 0)⟩, hl, hwl⟩
    have each : ∀ i, i < len → ∃ z : α × List Value, d.K W z.1 z.2 ∧ ∀ j u, z.2[j]? = some u → W.cell? (x.add (i * d.sz + j)) = some u := by
      intro i hi
      obtain ⟨cs, h1, h2⟩ := hx i (by omega)
      rw [hs] at h1
      obtain ⟨_, hln, hcl⟩ := World.cells?_some h1
      obtain ⟨p, hp⟩ := he _ _ _ hln h2
      refine ⟨(p, cs), hp, fun j u hj => ?_⟩
      have hj' : j < d.sz := by rw [← hln]; exact (List.getElem?_eq_some_iff.1 hj).1
      rw [← hj, ← hcl j hj', Go.Deep.add_add]
    haveI : Inhabited α := ⟨(Classical.choose (each 0 (by omega))).1⟩
    obtain ⟨f, hf⟩ := Go.Deep.choose_lt each
    refine ⟨(List.range len).map fun i => (f i).1, by simp, ?_, hl, hwl⟩
    refine ⟨by simp, by simp only [List.length_map, List.length_range]; unfold maxLen at hm; omega, fun _ => ⟨x, rfl, fun j p hj => ?_⟩⟩
    obtain ⟨hj1, hj2⟩ := List.getElem?_eq_some_iff.1 hj
    simp only [List.length_map, List.length_range] at hj1
    simp only [List.getElem_map, List.getElem_range] at hj2
    subst hj2
    obtain ⟨k1, k2⟩ := hf j hj1
    exact ⟨(f j).2, d.K_len k1, k1, k2⟩
theorem int_el {H : Type} {enc : TypeId × Value → H} {P : Program} {W : World} {e q : TypeId} {k : IntKind} (he : P.underlying e = some (.slice q)) (hq : P.underlying q = some (.int k)) (cq : P.cellsOf q = 1) :
    ∀ n cs (y : DataW H × List MemPlace), cs.length = (Kd.slice q (Kd.int k)).sz → DataW.trod enc P W 0 (fun _ => true) true n e cs = some y → ∃ x, (Kd.slice q (Kd.int k)).K W x cs := by
  intro n cs y _ h
  rcases open_ints he hq cq h with ⟨hcs, _⟩ | ⟨x, l, cp, zs, hcs, _, hl, hm, hz, _, hcell, hwz⟩
  · subst hcs
    exact ⟨[], none, 0, rfl, Nat.zero_le _, Kd.C_nil _ _⟩
  · obtain ⟨xs, rfl, hr, _, _, hc'⟩ := ReadsInt.ofRowC (a := some x) (len := l) (cap := cp) (zs := zs) (.inr ⟨x, rfl, hl, hm, by simpa using hz, hcell, hwz⟩)
    exact ⟨xs, some x, cp, hcs, hc', Kd.C_of_reads hr⟩
theorem el_25 {H : Type} {enc : TypeId × Value → H} {W : World} : ∀ n cs (y : DataW H × List MemPlace), cs.length = k25.sz → DataW.trod enc Try.prog W 0 (fun _ => true) true n 25 cs = some y → ∃ x, k25.K W x cs := by
  intro n cs y hl h
  have hl : cs.length = 5 := hl
  match cs, hl with
  | [c0, c1, c2, c3, c4], _ =>
  obtain ⟨q_0, q_1, q_2, q_3, m, hx, _, g_0, g_1, g_2, g_3⟩ := trod_struct4 Try.underlying25 h
  have e_0 : Try.prog.cellsOf 3 = 1 := by kernel_rfl
  have b_0 : DataW.trod enc Try.prog W 0 (fun _ => true) true m 3 [c0] = some q_0 := by
    have g := g_0
    simp only [e_0, List.drop_zero, List.drop_succ_cons, List.take_succ_cons, List.take_zero, List.take_nil] at g
    exact g
  obtain ⟨a_0, he_0, _, _⟩ := DataW.trod_int Try.underlying3 b_0
  obtain rfl := (List.cons.inj he_0).1
  have e_1 : Try.prog.cellsOf 3 = 1 := by kernel_rfl
  have b_1 : DataW.trod enc Try.prog W 0 (fun _ => true) true m 3 [c1] = some q_1 := by
    have g := g_1
    simp only [e_1, List.drop_zero, List.drop_succ_cons, List.take_succ_cons, List.take_zero, List.take_nil] at g
    exact g
  obtain ⟨a_1, he_1, _, _⟩ := DataW.trod_int Try.underlying3 b_1
  obtain rfl := (List.cons.inj he_1).1
  have e_2 : Try.prog.cellsOf 3 = 1 := by kernel_rfl
  have b_2 : DataW.trod enc Try.prog W 0 (fun _ => true) true m 3 [c2] = some q_2 := by
    have g := g_2
    simp only [e_2, List.drop_zero, List.drop_succ_cons, List.take_succ_cons, List.take_zero, List.take_nil] at g
    exact g
  obtain ⟨a_2, he_2, _, _⟩ := DataW.trod_int Try.underlying3 b_2
  obtain rfl := (List.cons.inj he_2).1
  have e_3 : Try.prog.cellsOf 23 = 2 := by kernel_rfl
  have b_3 : DataW.trod enc Try.prog W 0 (fun _ => true) true m 23 [c3, c4] = some q_3 := by
    have g := g_3
    simp only [e_3, List.drop_zero, List.drop_succ_cons, List.take_succ_cons, List.take_zero, List.take_nil] at g
    exact g
  obtain ⟨q_3_0, q_3_1, m_3, hx_3, _, g_3_0, g_3_1⟩ := trod_struct2 Try.underlying23 b_3
  have e_3_0 : Try.prog.cellsOf 3 = 1 := by kernel_rfl
  have b_3_0 : DataW.trod enc Try.prog W 0 (fun _ => true) true m_3 3 [c3] = some q_3_0 := by
    have g := g_3_0
    simp only [e_3_0, List.drop_zero, List.drop_succ_cons, List.take_succ_cons, List.take_zero, List.take_nil] at g
    exact g
  obtain ⟨a_3_0, he_3_0, _, _⟩ := DataW.trod_int Try.underlying3 b_3_0
  obtain rfl := (List.cons.inj he_3_0).1
  have e_3_1 : Try.prog.cellsOf 4 = 1 := by kernel_rfl
  have b_3_1 : DataW.trod enc Try.prog W 0 (fun _ => true) true m_3 4 [c4] = some q_3_1 := by
    have g := g_3_1
    simp only [e_3_1, List.drop_zero, List.drop_succ_cons, List.take_succ_cons, List.take_zero, List.take_nil] at g
    exact g
  obtain ⟨a_3_1, he_3_1, _⟩ := DataW.trod_bool Try.underlying4 b_3_1
  obtain rfl := (List.cons.inj he_3_1).1
  exact ⟨(⟨a_0, a_1, a_2, (⟨a_3_0, a_3_1⟩ : S23)⟩ : S25), k25_mk W _⟩
set_option maxRecDepth 100000 in
theorem lifted (os : Os) (started : os.Started) (H : Type) (enc : TypeId × Value → H) :
    ReturnsInHanded {} Try.checked os 12 .any (Rows.fnExactChainSignalsSpec.pre6 enc Try.prog Try.f12 Rows.fnExactChainSignalsRow.domain false) (Rows.fnExactChainSignalsSpec.post enc Try.prog Try.f12 false true false false) := by
  refine returnsInHanded_of_change_sized (C := Try.checked) own started (by kernel_rfl) Try.func12
    (ChangeSpec.witness6 (enc := enc) (C := Try.checked) false ⟨#[], #[.slice none 0 0, .slice none 0 0], []⟩ 8 (by kernel_rfl) (by kernel_rfl) (by kernel_rfl) (by kernel_rfl)) ?_
  intro W base args ds gs before hval0 hW hcnd hsz0 _
  have hsz : (DataW.weightsEach Try.prog (Try.f12.params.toList ++ Rows.fnExactChainSignalsSpec.plain.varTypes Try.prog) (ds ++ gs)).all (· ≤ reachBytes) = true := hsz0
  have hval : ∀ (j : Nat) t v, Try.f12.params[j]? = some t → args[j]? = some v → Value.okWide Try.prog W .any base t v := hval0
  have hW' := hW
  obtain ⟨p, q, hA0, hV, rfl, hfz, hnd⟩ := hW
  have hA : DataW.TrodAll enc Try.prog W 0 (fun _ => true) true Try.f12.params.toList args.toList ds p := hA0
  rw [Try.params12] at hA hval hsz
  obtain ⟨v0, vs0, d0, ds0, p0, q0, hargs, rfl, rfl, h0, r0⟩ := trodAll_cons hA
  obtain ⟨v1, vs1, d1, ds1, p1, q1, rfl, rfl, rfl, h1, r1⟩ := trodAll_cons r0
  obtain ⟨rfl, rfl, rfl⟩ := trodAll_nil r1
  obtain rfl : args = #[v0, v1] := by cases args; simp_all
  obtain ⟨rfl, rfl⟩ := trodVars_none hV
  obtain ⟨a0, len0, cap0, rfl⟩ := okWide_slice Try.underlying75 (hval 0 75 v0 rfl rfl)
  have k0 := h0
  have lt0 : ∀ x ∈ p0, x.block < W.heap.size := by obtain ⟨m, hm⟩ := k0; exact DataW.trod_lt m _ _ _ hm
  have hwt0 : ∀ m ∈ d0.weights Try.prog 75, m ≤ reachBytes := fun m hm => by simpa using List.all_eq_true.1 hsz _ (DataW.weights_mem_each (j := 0) (t := 75) rfl rfl m hm)
  obtain ⟨n0, hf0⟩ := h0
  have hg0 : DataW.trod enc Try.prog W 0 (fun _ => true) true n0 75 [.slice a0 len0 cap0] = some (d0, p0) := by simpa [Value.cells] using hf0
  obtain ⟨l0, rfl, w0, c0, y0⟩ := list_row (d := k25) (B := 40) Try.underlying75 (by kernel_rfl) el_25 (by kernel_rfl) hwt0 hg0
  obtain ⟨a1, len1, cap1, rfl⟩ := okWide_slice Try.underlying26 (hval 1 26 v1 rfl rfl)
  have k1 := h1
  have lt1 : ∀ x ∈ p1, x.block < W.heap.size := by obtain ⟨m, hm⟩ := k1; exact DataW.trod_lt m _ _ _ hm
  obtain ⟨z1, w1⟩ : ∃ zs, IsRow .i64 W a1 len1 cap1 zs := by
    obtain ⟨fuel, hf⟩ := h1
    rcases open_ints Try.underlying26 Try.underlying3 (by kernel_rfl) hf with ⟨hcs, _⟩ | ⟨x, l, c, zs, hcs, _, hl, hm, hz, _, hcell, hwz⟩
    · simp [Value.cells] at hcs
      obtain ⟨rfl, rfl, rfl⟩ := hcs
      exact ⟨[], .inl ⟨rfl, rfl, rfl, rfl⟩⟩
    · simp [Value.cells] at hcs
      obtain ⟨rfl, rfl, rfl⟩ := hcs
      exact ⟨zs, .inr ⟨_, rfl, hl, hm, by simpa using hz, hcell, hwz⟩⟩
  have y1 : len1 * 8 ≤ 140737488351232 := Go.Proofs.YthpdpbjgdndnmaaW.PrintWords.sized_ints hsz (j := 1) (t := 26) rfl rfl Try.underlying26 Try.underlying3 (by kernel_rfl) (by kernel_rfl) h1
  clear hA0 hval0 hsz0 hsz
  refine (PFnExactChainSignals.laws_FnExactChainSignals.walk Pure.FnExactChainSignals a0 cap0 l0 a1 len1 cap1 z1 W w0 c0 y0 w1 y1).mono fun e W' ⟨he, bel⟩ => ?_
  subst he
  exact ⟨_, rfl, _, _, _, [], _, [], hW', trodAll_mk1 (shut_bool Try.underlying4 _), (trodAll_cons_mk (Below.trod laidOut (by kernel_rfl) (of_decide_eq_true (by kernel_rfl)) k0 bel lt0) (trodAll_cons_mk (Below.trod laidOut (by kernel_rfl) (of_decide_eq_true (by kernel_rfl)) k1 bel lt1) trodAll_mk0)), rfl, bel.frame _, fun h => by cases h⟩
theorem over : Rows.fnExactChainSignalsRow.holds Try.pinned (OpenSpec.ofChange Rows.fnExactChainSignalsSpec) :=
  OpenClaim.holds_of_wide 12 Try.f12 rfl rfl rfl rfl rfl rfl rfl ⟨rfl, rfl, rfl, rfl, rfl⟩ rfl rfl rfl rfl rfl (by kernel_rfl) Try.func12 (by kernel_rfl)
    (of_decide_eq_true (by kernel_rfl)) (by unfold Func.isWrapper; first | (rw [if_pos (by decide +kernel)]; kernel_rfl) | (rw [if_neg (by decide +kernel)]; exact ⟨rfl, rfl⟩))
    (fun os started H enc _ => lifted os started H enc)
theorem proved : Rows.FnExactChainSignalsSaid := over
#print axioms proved
end Go.Proofs.Ythpdpbjgdndnmaa.fnExactChainSignals
namespace Go.Proofs.Ythpdpbjgdndnmaa
/-- The row, under a short name, for the claim. -/
theorem fnExactChainSignals_holds : Rows.FnExactChainSignalsSaid := fnExactChainSignals.proved
end Go.Proofs.Ythpdpbjgdndnmaa
