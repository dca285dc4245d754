/- What each Go function that the statement FnExactCountOutputs reaches answers, proved call by call. No condition beyond those that the theorems print. (Written by wip/tools/xprint.py of this repo, over the kit's print.) -/
import Derived.Test.YtjplcongellcmaaDoorTie
import Derived.Test.YtjplcongellcmaaDoorCards
import Derived.OpenVars
import Derived.LaidMore
import Derived.Stop.Joined
import Derived.Stop.LaidErr
import Derived.SevenTiedAt
import Derived.LaidOnce
import Derived.LaidSub
import Derived.Lib.LaidTab
import Derived.Lib.SmallJoins
import Derived.Deep.Strs
import Derived.Deep.Slices
import Derived.Test.YtjplcongellcmaaDoorRows
import Derived.Test.YtjplcongellcmaaDoorPFnExactCountOutputsx9
import Derived.Test.YtjplcongellcmaaDoorPureFnExactCountOutputs
import Derived.WalkKit
import Derived.ProofKit
import Derived.OpenShut
import Derived.ShutString
import Derived.ChangeOld
import Derived.Below
import Derived.SizedLaws
import Derived.Test.YtjplcongellcmaaDoorWSized
namespace Go.Proofs.YtjplcongellcmaaDoor.fnExactCountOutputs
open Go.ChangeShapes Go.WideShapes Go.ChangeAt Go.RowKit
open Go.ChangeMaps (open_string shut_string)
set_option linter.unusedVariables false
theorem own : ownKnob Tryd.prog.godebug = none := by kernel_rfl
theorem laidOut : laidOutB Tryd.prog = true := by kernel_rfl
def IsRow (k : IntKind) (w : World) (a : Option Addr) (len cap : Nat) (zs : List Int) : Prop :=
  (a = none ∧ len = 0 ∧ cap = 0 ∧ zs = []) ∨
  ∃ x, a = some x ∧ len ≤ cap ∧ cap ≤ maxLen ∧ zs.length = cap ∧ (∀ i, i < zs.length → w.cell? (x.add i) = some (.int k (zs.getD i 0))) ∧ ∀ n ∈ zs, (Lit.int k n).wf = true
set_option linter.unusedSimpArgs false
open Go.Deep Go.Joins Go.Proofs.YtjplcongellcmaaDoorW.PrintWords Go.Proofs.YtjplcongellcmaaDoorW.PrintLast Go.Proofs.YtjplcongellcmaaDoorW.PrintMore Go.Proofs.YtjplcongellcmaaDoor.PFnExactCountOutputs
theorem list_row {α H : Type} {enc : TypeId × Value → H} {P : Program} {W : World} {n : Nat} {t e : TypeId} {d : Kd α} {a : Option Addr} {len cap B : Nat} {y : DataW H × List MemPlace}
    (hu : P.underlying t = some (.slice e)) (hs : P.cellsOf e = d.sz) (he : ∀ n cs (y : DataW H × List MemPlace), cs.length = d.sz → DataW.trod enc P W 0 (fun _ => true) true n e cs = some y → ∃ x, d.K W x cs)
    (hB : P.bytesOf e = B) (hw : ∀ m ∈ y.1.weights P t, m ≤ reachBytes) (h : DataW.trod enc P W 0 (fun _ => true) true n t [.slice a len cap] = some y) :
    ∃ xs : List α, xs.length = len ∧ d.C W a xs.length xs ∧ len ≤ cap ∧ len * B ≤ 140737488351232 := by
  rcases Go.Deep.open_slice hu h with ⟨hcs, _⟩ | ⟨x, l, cp, m, n', D, Pl, hcs, _, hl, hm, hmm, rfl, hx⟩
  · simp at hcs
    obtain ⟨rfl, rfl, rfl⟩ := hcs
    exact ⟨[], rfl, Kd.C_nil _ _, Nat.le_refl _, by simp⟩
  · simp at hcs
    obtain ⟨rfl, rfl, rfl⟩ := hcs
    simp only [if_true] at hmm
    subst hmm
    have hwl : len * B ≤ 140737488351232 := by
      have z := hw ((((List.range len).map D).length + ((List.range (m - len)).map fun j => D (len + j)).length) * P.bytesOf e) (by simp [DataW.weights, hu])
      rw [hB] at z
      simp only [List.length_map, List.length_range] at z
      exact Nat.le_trans (Nat.mul_le_mul_right _ (by omega)) z
    by_cases h0 : len = 0
    · subst h0
      exact ⟨[], rfl, ⟨rfl, by simp, fun h => absurd h (Nat.lt_irrefl 0)⟩, hl, hwl⟩
    have each : ∀ i, i < len → ∃ z : α × List Value, d.K W z.1 z.2 ∧ ∀ j u, z.2[j]? = some u → W.cell? (x.add (i * d.sz + j)) = some u := by
      intro i hi
      obtain ⟨cs, h1, h2⟩ := hx i (by omega)
      rw [hs] at h1
      obtain ⟨_, hln, hcl⟩ := World.cells?_some h1
      obtain ⟨p, hp⟩ := he _ _ _ hln h2
      refine ⟨(p, cs), hp, fun j u hj => ?_⟩
      have hj' : j < d.sz := by rw [← hln]; exact (List.getElem?_eq_some_iff.1 hj).1
      rw [← hj, ← hcl j hj', Go.Deep.add_add]
    haveI : Inhabited α := ⟨(Classical.choose (each 0 (by omega))).1⟩
    obtain ⟨f, hf⟩ := Go.Deep.choose_lt each
    refine ⟨(List.range len).map fun i => (f i).1, by simp, ?_, hl, hwl⟩
    refine ⟨by simp, by simp only [List.length_map, List.length_range]; unfold maxLen at hm; omega, fun _ => ⟨x, rfl, fun j p hj => ?_⟩⟩
    obtain ⟨hj1, hj2⟩ := List.getElem?_eq_some_iff.1 hj
    simp only [List.length_map, List.length_range] at hj1
    simp only [List.getElem_map, List.getElem_range] at hj2
    subst hj2
    obtain ⟨k1, k2⟩ := hf j hj1
    exact ⟨(f j).2, d.K_len k1, k1, k2⟩
theorem int_el {H : Type} {enc : TypeId × Value → H} {P : Program} {W : World} {e q : TypeId} {k : IntKind} (he : P.underlying e = some (.slice q)) (hq : P.underlying q = some (.int k)) (cq : P.cellsOf q = 1) :
    ∀ n cs (y : DataW H × List MemPlace), cs.length = (Kd.slice q (Kd.int k)).sz → DataW.trod enc P W 0 (fun _ => true) true n e cs = some y → ∃ x, (Kd.slice q (Kd.int k)).K W x cs := by
  intro n cs y _ h
  rcases open_ints he hq cq h with ⟨hcs, _⟩ | ⟨x, l, cp, zs, hcs, _, hl, hm, hz, _, hcell, hwz⟩
  · subst hcs
    exact ⟨[], none, 0, rfl, Nat.zero_le _, Kd.C_nil _ _⟩
  · obtain ⟨xs, rfl, hr, _, _, hc'⟩ := ReadsInt.ofRowC (a := some x) (len := l) (cap := cp) (zs := zs) (.inr ⟨x, rfl, hl, hm, by simpa using hz, hcell, hwz⟩)
    exact ⟨xs, some x, cp, hcs, hc', Kd.C_of_reads hr⟩
theorem el_83 {H : Type} {enc : TypeId × Value → H} {W : World} : ∀ n cs (y : DataW H × List MemPlace), cs.length = k83.sz → DataW.trod enc Tryd.prog W 0 (fun _ => true) true n 83 cs = some y → ∃ x, k83.K W x cs := by
  intro n cs y hl h
  have hl : cs.length = 5 := hl
  match cs, hl with
  | [c0, c1, c2, c3, c4], _ =>
  obtain ⟨q_0, q_1, q_2, q_3, m, hx, _, g_0, g_1, g_2, g_3⟩ := trod_struct4 Tryd.underlying83 h
  have e_0 : Tryd.prog.cellsOf 3 = 1 := by kernel_rfl
  have b_0 : DataW.trod enc Tryd.prog W 0 (fun _ => true) true m 3 [c0] = some q_0 := by
    have g := g_0
    simp only [e_0, List.drop_zero, List.drop_succ_cons, List.take_succ_cons, List.take_zero, List.take_nil] at g
    exact g
  obtain ⟨a_0, he_0, _, _⟩ := DataW.trod_int Tryd.underlying3 b_0
  obtain rfl := (List.cons.inj he_0).1
  have e_1 : Tryd.prog.cellsOf 3 = 1 := by kernel_rfl
  have b_1 : DataW.trod enc Tryd.prog W 0 (fun _ => true) true m 3 [c1] = some q_1 := by
    have g := g_1
    simp only [e_1, List.drop_zero, List.drop_succ_cons, List.take_succ_cons, List.take_zero, List.take_nil] at g
    exact g
  obtain ⟨a_1, he_1, _, _⟩ := DataW.trod_int Tryd.underlying3 b_1
  obtain rfl := (List.cons.inj he_1).1
  have e_2 : Tryd.prog.cellsOf 3 = 1 := by kernel_rfl
  have b_2 : DataW.trod enc Tryd.prog W 0 (fun _ => true) true m 3 [c2] = some q_2 := by
    have g := g_2
    simp only [e_2, List.drop_zero, List.drop_succ_cons, List.take_succ_cons, List.take_zero, List.take_nil] at g
    exact g
  obtain ⟨a_2, he_2, _, _⟩ := DataW.trod_int Tryd.underlying3 b_2
  obtain rfl := (List.cons.inj he_2).1
  have e_3 : Tryd.prog.cellsOf 81 = 2 := by kernel_rfl
  have b_3 : DataW.trod enc Tryd.prog W 0 (fun _ => true) true m 81 [c3, c4] = some q_3 := by
    have g := g_3
    simp only [e_3, List.drop_zero, List.drop_succ_cons, List.take_succ_cons, List.take_zero, List.take_nil] at g
    exact g
  obtain ⟨q_3_0, q_3_1, m_3, hx_3, _, g_3_0, g_3_1⟩ := trod_struct2 Tryd.underlying81 b_3
  have e_3_0 : Tryd.prog.cellsOf 3 = 1 := by kernel_rfl
  have b_3_0 : DataW.trod enc Tryd.prog W 0 (fun _ => true) true m_3 3 [c3] = some q_3_0 := by
    have g := g_3_0
    simp only [e_3_0, List.drop_zero, List.drop_succ_cons, List.take_succ_cons, List.take_zero, List.take_nil] at g
    exact g
  obtain ⟨a_3_0, he_3_0, _, _⟩ := DataW.trod_int Tryd.underlying3 b_3_0
  obtain rfl := (List.cons.inj he_3_0).1
  have e_3_1 : Tryd.prog.cellsOf 4 = 1 := by kernel_rfl
  have b_3_1 : DataW.trod enc Tryd.prog W 0 (fun _ => true) true m_3 4 [c4] = some q_3_1 := by
    have g := g_3_1
    simp only [e_3_1, List.drop_zero, List.drop_succ_cons, List.take_succ_cons, List.take_zero, List.take_nil] at g
    exact g
  obtain ⟨a_3_1, he_3_1, _⟩ := DataW.trod_bool Tryd.underlying4 b_3_1
  obtain rfl := (List.cons.inj he_3_1).1
  exact ⟨(⟨a_0, a_1, a_2, (⟨a_3_0, a_3_1⟩ : S81)⟩ : S83), k83_mk W _⟩
open Go.Proofs.YtjplcongellcmaaDoorW.PrintWords Go.Proofs.YtjplcongellcmaaDoorW.PrintLast Go.Proofs.YtjplcongellcmaaDoorW.PrintMore Go.Proofs.YtjplcongellcmaaDoor.PFnExactCountOutputs
def laid2 : List (String × DataW Unit) := [("math/bits.deBruijn32tab", Rows.laid_math_bits_deBruijn32tab), ("math/bits.deBruijn64tab", Rows.laid_math_bits_deBruijn64tab), ("internal/strconv.uint64pow10", Rows.laid_internal_strconv_uint64pow10)]
theorem door_met (os : Os) (args : Array Value) : laidMetH Tryd.prog laid2 ((World.doorLaid Tryd.prog 60 os).forCall (fun _ _ => 0) ⟨#[], args, []⟩).memory :=
  laidMetH_of_parts3 (fuel := 8) (laidMet_of_run' 8 (by kernel_rfl) (by kernel_rfl)) (by kernel_rfl) (by kernel_rfl)
theorem glob {W : World} (h : laidMetH Tryd.prog laid2 W) : GLob W := by
  rw [MakeChecks.laidMetH_plain _ _ _ (by kernel_rfl)] at h
  obtain ⟨gl, hgl⟩ := globNamed
  have hty : (Tryd.prog.globals[gl]?).map (·.type) = some 136 := by
    have e : (Tryd.prog.globalNamed "internal/strconv.uint64pow10").bind (fun q => (Tryd.prog.globals[q]?).map (·.type)) = some 136 := by kernel_rfl
    rw [hgl] at e
    exact e
  exact Go.Lib.tabIs_of_head (n := 20) hgl hty Tryd.underlying136 Tryd.underlying48 (by kernel_rfl) (by kernel_rfl) (show laidMet Tryd.prog [("internal/strconv.uint64pow10", Go.Lib.tabData .u64 Go.Lib.pow10Tab)] W from h.tail.tail)
set_option maxRecDepth 100000 in
theorem lifted (os : Os) (started : os.Started) (H : Type) (enc : TypeId × Value → H) :
    ReturnsInHanded {} Tryd.checked os 4 .any (fun w args => (Rows.fnExactCountOutputsSpec.pre enc Tryd.prog Tryd.f4 Rows.fnExactCountOutputsRow.domain false w args ∧ laidMetH Tryd.prog laid2 w) ∧ sizedMet enc Tryd.prog Tryd.f4 (OpenSpec.ofChange Rows.fnExactCountOutputsSpec) false w args) (Rows.fnExactCountOutputsSpec.post enc Tryd.prog Tryd.f4 false true false false) := by
  refine returnsInHanded_of_change_and (C := Tryd.checked) (X := fun w _ => laidMetH Tryd.prog laid2 w) (fun _ _ _ hh h => h.of_heap hh) own started (by kernel_rfl) Tryd.func4
    (ChangeSpec.witness_shaped (enc := enc) (C := Tryd.checked) (os := os) (X := fun w _ => laidMetH Tryd.prog laid2 w) false (World.doorLaid Tryd.prog 60 os) #[.slice none 0 0, .slice none 0 0] 8 rfl (World.shaped_of_RefB (by kernel_rfl) (by kernel_rfl)) (by kernel_rfl) (by kernel_rfl) (by kernel_rfl) (door_met os _)) ?_
  intro W base args ds gs before hval0 hW hcnd hsz0 hL _
  have hsz : (DataW.weightsEach Tryd.prog (Tryd.f4.params.toList ++ Rows.fnExactCountOutputsSpec.plain.varTypes Tryd.prog) (ds ++ gs)).all (· ≤ reachBytes) = true := hsz0
  have hval : ∀ (j : Nat) t v, Tryd.f4.params[j]? = some t → args[j]? = some v → Value.okWide Tryd.prog W .any base t v := hval0
  have hW' := hW
  obtain ⟨p, q, hA0, hV, rfl, hfz, hnd⟩ := hW
  have hA : DataW.TrodAll enc Tryd.prog W 0 (fun _ => true) true Tryd.f4.params.toList args.toList ds p := hA0
  rw [Tryd.params4] at hA hval hsz
  obtain ⟨v0, vs0, d0, ds0, p0, q0, hargs, rfl, rfl, h0, r0⟩ := trodAll_cons hA
  obtain ⟨v1, vs1, d1, ds1, p1, q1, rfl, rfl, rfl, h1, r1⟩ := trodAll_cons r0
  obtain ⟨rfl, rfl, rfl⟩ := trodAll_nil r1
  obtain rfl : args = #[v0, v1] := by cases args; simp_all
  obtain ⟨rfl, rfl⟩ := trodVars_none hV
  obtain ⟨a0, len0, cap0, rfl⟩ := okWide_slice Tryd.underlying39 (hval 0 39 v0 rfl rfl)
  have k0 := h0
  have lt0 : ∀ x ∈ p0, x.block < W.heap.size := by obtain ⟨m, hm⟩ := k0; exact DataW.trod_lt m _ _ _ hm
  have hwt0 : ∀ m ∈ d0.weights Tryd.prog 39, m ≤ reachBytes := fun m hm => by simpa using List.all_eq_true.1 hsz _ (DataW.weights_mem_each (j := 0) (t := 39) rfl rfl m hm)
  obtain ⟨n0, hf0⟩ := h0
  have hg0 : DataW.trod enc Tryd.prog W 0 (fun _ => true) true n0 39 [.slice a0 len0 cap0] = some (d0, p0) := by simpa [Value.cells] using hf0
  obtain ⟨l0, rfl, w0, c0, y0⟩ := list_row (d := k83) (B := 40) Tryd.underlying39 (by kernel_rfl) el_83 (by kernel_rfl) hwt0 hg0
  obtain ⟨a1, len1, cap1, rfl⟩ := okWide_slice Tryd.underlying24 (hval 1 24 v1 rfl rfl)
  have k1 := h1
  have lt1 : ∀ x ∈ p1, x.block < W.heap.size := by obtain ⟨m, hm⟩ := k1; exact DataW.trod_lt m _ _ _ hm
  obtain ⟨z1, w1⟩ : ∃ zs, IsRow .i64 W a1 len1 cap1 zs := by
    obtain ⟨fuel, hf⟩ := h1
    rcases open_ints Tryd.underlying24 Tryd.underlying3 (by kernel_rfl) hf with ⟨hcs, _⟩ | ⟨x, l, c, zs, hcs, _, hl, hm, hz, _, hcell, hwz⟩
    · simp [Value.cells] at hcs
      obtain ⟨rfl, rfl, rfl⟩ := hcs
      exact ⟨[], .inl ⟨rfl, rfl, rfl, rfl⟩⟩
    · simp [Value.cells] at hcs
      obtain ⟨rfl, rfl, rfl⟩ := hcs
      exact ⟨zs, .inr ⟨_, rfl, hl, hm, by simpa using hz, hcell, hwz⟩⟩
  have y1 : len1 * 8 ≤ 140737488351232 := Go.Proofs.YtjplcongellcmaaDoorW.PrintWords.sized_ints hsz (j := 1) (t := 24) rfl rfl Tryd.underlying24 Tryd.underlying3 (by kernel_rfl) (by kernel_rfl) h1
  clear hA0 hval0 hsz0 hsz
  refine (PFnExactCountOutputs.laws_FnExactCountOutputs.walk Pure.FnExactCountOutputs a0 cap0 l0 a1 len1 cap1 z1 W (glob hL) w0 c0 y0 w1 y1).mono fun e W' ⟨he, bel⟩ => ?_
  subst he
  exact ⟨_, rfl, _, _, _, [], _, [], hW', trodAll_mk1 (shut_bool Tryd.underlying4 _), (trodAll_cons_mk (Below.trod laidOut (by kernel_rfl) (of_decide_eq_true (by kernel_rfl)) k0 bel lt0) (trodAll_cons_mk (Below.trod laidOut (by kernel_rfl) (of_decide_eq_true (by kernel_rfl)) k1 bel lt1) trodAll_mk0)), rfl, bel.frame _, fun h => by cases h⟩
theorem over : Rows.fnExactCountOutputsRow.holds Tryd.pinned (OpenSpec.ofChange Rows.fnExactCountOutputsSpec) :=
  OpenClaim.holds_of_wide 4 Tryd.f4 rfl rfl rfl rfl rfl rfl rfl ⟨rfl, rfl, rfl, rfl, rfl⟩ rfl rfl rfl rfl rfl (by kernel_rfl) Tryd.func4 (by kernel_rfl)
    (of_decide_eq_true (by kernel_rfl)) (by unfold Func.isWrapper; first | (rw [if_pos (by decide +kernel)]; kernel_rfl) | (rw [if_neg (by decide +kernel)]; exact ⟨rfl, rfl⟩))
    (fun os started H enc _ => lifted os started H enc)
theorem proved : Rows.FnExactCountOutputsSaid := over
#print axioms proved
set_option maxRecDepth 100000 in
theorem card : Rows.FnExactCountOutputsCardSaid :=
  Claim7.holds_tied_plain_at .later [] [.data, .data, .data] true (true, "3324820354d69a5225f1c14a2e5d745fab17c7e4649e061711357f4e24b5ffb5") false over (fun _ h => by cases h) (by as_aux_lemma => kernel_rfl) (fun _ h => by cases h) fnExactCountOutputs_row_tie rfl ⟨rfl, rfl⟩ (by as_aux_lemma => kernel_rfl) rfl
    (fun f fn hf hfn => by
      obtain rfl : f = 4 := Option.some.inj ((show Tryd.prog.funcNamed "loop.example/g01198/laws.FnExactCountOutputs" = some 4 by kernel_rfl).symm.trans hf) |>.symm
      obtain rfl : fn = Tryd.f4 := (Option.some.inj (Tryd.func4.symm.trans hfn)).symm
      exact ⟨by kernel_rfl, fun j t ht => by
        rw [Tryd.params4] at ht
        have hm : t ∈ [39, 24] := by simpa using Array.mem_of_getElem? ht
        have hall : ([39, 24].all fun u => !Tryd.prog.wantsStandIn u) = true := by kernel_rfl
        exact (show Tryd.prog.wantsStandIn t = false by simpa using List.all_eq_true.1 hall t hm)⟩)
    (by as_aux_lemma => kernel_rfl)
#print axioms card
end Go.Proofs.YtjplcongellcmaaDoor.fnExactCountOutputs
namespace Go.Proofs.YtjplcongellcmaaDoor
/-- The row, under a short name, for the claim. -/
theorem fnExactCountOutputs_holds : Rows.FnExactCountOutputsCardSaid := fnExactCountOutputs.card
end Go.Proofs.YtjplcongellcmaaDoor
