/- What each Go function that the statement FnTonesFound reaches answers, proved call by call. No condition beyond those that the theorems print. (Written by wip/tools/xprint.py of this repo, over the kit's print.) -/
import Derived.Test.YtjplcongellcmaaDoorTie
import Derived.Test.YtjplcongellcmaaDoorCards
import Derived.OpenVars
import Derived.LaidMore
import Derived.Stop.Joined
import Derived.SevenTiedAt
import Derived.LaidOnce
import Derived.LaidSub
import Derived.Test.YtjplcongellcmaaDoorRows
import Derived.Test.YtjplcongellcmaaDoorPFnTonesFoundx8
import Derived.Test.YtjplcongellcmaaDoorPureFnTonesFound
import Derived.WalkKit
import Derived.ProofKit
import Derived.OpenShut
import Derived.ShutString
import Derived.ChangeOld
import Derived.Below
import Derived.SizedLaws
import Derived.Test.YtjplcongellcmaaDoorWSized
namespace Go.Proofs.YtjplcongellcmaaDoor.fnTonesFound
open Go.ChangeShapes Go.WideShapes Go.ChangeAt Go.RowKit
open Go.ChangeMaps (open_string shut_string)
set_option linter.unusedVariables false
theorem own : ownKnob Tryd.prog.godebug = none := by kernel_rfl
theorem laidOut : laidOutB Tryd.prog = true := by kernel_rfl
def IsRow (k : IntKind) (w : World) (a : Option Addr) (len cap : Nat) (zs : List Int) : Prop :=
  (a = none ∧ len = 0 ∧ cap = 0 ∧ zs = []) ∨
  ∃ x, a = some x ∧ len ≤ cap ∧ cap ≤ maxLen ∧ zs.length = cap ∧ (∀ i, i < zs.length → w.cell? (x.add i) = some (.int k (zs.getD i 0))) ∧ ∀ n ∈ zs, (Lit.int k n).wf = true
open Go.Proofs.YtjplcongellcmaaDoorW.PrintWords Go.Proofs.YtjplcongellcmaaDoorW.PrintLast Go.Proofs.YtjplcongellcmaaDoorW.PrintMore Go.Proofs.YtjplcongellcmaaDoor.PFnTonesFound
def laid2 : List (String × DataW Unit) := [("loop.example/g01198/impl.fourTurns", Rows.laid_loop_example_g01198_impl_fourTurns), ("loop.example/g01198/impl.sixTurns", Rows.laid_loop_example_g01198_impl_sixTurns)]
theorem door_met (os : Os) (args : Array Value) : laidMetH Tryd.prog laid2 ((World.doorLaid Tryd.prog 60 os).forCall (fun _ _ => 0) ⟨#[], args, []⟩).memory :=
  laidMetH_of_parts3 (fuel := 8) (laidMet_of_run' 8 (by kernel_rfl) (by kernel_rfl)) (by kernel_rfl) (by kernel_rfl)
theorem pair_el {P : Program} {W : World} {t : TypeId} {f0 f1 : Field} {m : Nat} {c0 c1 : Value} {x : DataW Unit × List MemPlace} {a b : Int} (ht : P.underlying t = some (.struct #[f0, f1])) (h0 : P.underlying f0.type = some (.int .i64)) (h1 : P.underlying f1.type = some (.int .i64)) (o0 : f0.offset = 0) (o1 : f1.offset = 1) (z0 : P.cellsOf f0.type = 1) (z1 : P.cellsOf f1.type = 1)
    {enc : TypeId × Value → Unit} {base : Nat} {sp : Nat → Bool} {hd : Bool} (h : DataW.trod enc P W base sp hd m t [c0, c1] = some x) (hx : x.1 = .agg [.lit (.int .i64 a), .lit (.int .i64 b)]) : c0 = .int .i64 a ∧ c1 = .int .i64 b := by
  obtain ⟨y0, y1, m1, rfl, _, g0, g1⟩ := trod_struct2 ht h
  rw [o0, z0] at g0
  rw [o1, z1] at g1
  have g0' : DataW.trod enc P W base sp hd m1 f0.type [c0] = some y0 := by simpa using g0
  have g1' : DataW.trod enc P W base sp hd m1 f1.type [c1] = some y1 := by simpa using g1
  obtain ⟨n0, e0, d0, _⟩ := DataW.trod_int h0 g0'
  obtain ⟨n1, e1, d1, _⟩ := DataW.trod_int h1 g1'
  simp only [DataW.agg.injEq, List.cons.injEq, and_true] at hx
  rw [d0, d1] at hx
  simp only [DataW.lit.injEq, Lit.int.injEq, true_and] at hx
  obtain ⟨rfl, rfl⟩ := hx
  exact ⟨(List.cons.inj e0).1, (List.cons.inj e1).1⟩
set_option maxRecDepth 100000 in
theorem glob {W : World} (h : laidMetH Tryd.prog laid2 W) : GLob W := by
  rw [MakeChecks.laidMetH_plain _ _ _ (by kernel_rfl)] at h
  obtain ⟨ps, ⟨g0, t0, cs0, f0, p0, q0, hg0, ht0, hv0, hd0, ⟨g1, t1, cs1, f1, p1, q1, hg1, ht1, hv1, hd1, _, _⟩, _⟩, _, _⟩ := h
  obtain rfl := Option.some.inj ((show Tryd.prog.globalNamed "loop.example/g01198/impl.fourTurns" = some 0 by kernel_rfl).symm.trans hg0)
  obtain rfl := Option.some.inj ((show (Tryd.prog.globals[0]?).map (·.type) = some 92 by kernel_rfl).symm.trans ht0)
  have F0 : W.cell? ⟨0, 0, none⟩ = some (.int .i64 1) ∧ W.cell? ⟨0, 1, none⟩ = some (.int .i64 0) ∧ W.cell? ⟨0, 2, none⟩ = some (.int .i64 0) ∧ W.cell? ⟨0, 3, none⟩ = some (.int .i64 1) ∧ W.cell? ⟨0, 4, none⟩ = some (.int .i64 (-1)) ∧ W.cell? ⟨0, 5, none⟩ = some (.int .i64 0) ∧ W.cell? ⟨0, 6, none⟩ = some (.int .i64 0) ∧ W.cell? ⟨0, 7, none⟩ = some (.int .i64 (-1)) := by
    obtain ⟨xs, m, rfl, hx, hlen, hn, hel⟩ := DataW.trod_array Tryd.underlying92 hd0
    have ce : Tryd.prog.cellsOf 66 = 2 := by kernel_rfl
    have ca : Tryd.prog.cellsOf 92 = 8 := by kernel_rfl
    rw [ca] at hlen
    have hcell := fun k => World.var?_cell hg0 hv0 k
    obtain ⟨csl⟩ := cs0
    simp only at hlen hel
    simp only [Prod.mk.injEq] at hx
    have hx1 := (DataW.agg.inj hx.1).symm
    have h0_ := hel 0 (by decide)
    have h1_ := hel 1 (by decide)
    have h2_ := hel 2 (by decide)
    have h3_ := hel 3 (by decide)
    rw [ce] at h0_ h1_ h2_ h3_
    match csl, hlen, xs, hn, hx1, h0_, h1_, h2_, h3_ with
    | [c0_0, c0_1, c0_2, c0_3, c0_4, c0_5, c0_6, c0_7], _, [x0, x1, x2, x3], _, hx1, h0_, h1_, h2_, h3_ =>
      simp only [List.map_cons, List.map_nil, List.cons.injEq, and_true] at hx1
      obtain ⟨k0, k1, k2, k3⟩ := hx1
      change DataW.trod _ _ _ _ _ _ _ 66 [c0_0, c0_1] = some x0 at h0_
      obtain ⟨u0, v0⟩ := pair_el Tryd.underlying66 Tryd.underlying3 Tryd.underlying3 rfl rfl (by kernel_rfl) (by kernel_rfl) h0_ k0
      change DataW.trod _ _ _ _ _ _ _ 66 [c0_2, c0_3] = some x1 at h1_
      obtain ⟨u1, v1⟩ := pair_el Tryd.underlying66 Tryd.underlying3 Tryd.underlying3 rfl rfl (by kernel_rfl) (by kernel_rfl) h1_ k1
      change DataW.trod _ _ _ _ _ _ _ 66 [c0_4, c0_5] = some x2 at h2_
      obtain ⟨u2, v2⟩ := pair_el Tryd.underlying66 Tryd.underlying3 Tryd.underlying3 rfl rfl (by kernel_rfl) (by kernel_rfl) h2_ k2
      change DataW.trod _ _ _ _ _ _ _ 66 [c0_6, c0_7] = some x3 at h3_
      obtain ⟨u3, v3⟩ := pair_el Tryd.underlying66 Tryd.underlying3 Tryd.underlying3 rfl rfl (by kernel_rfl) (by kernel_rfl) h3_ k3
      refine ⟨?_, ?_, ?_, ?_, ?_, ?_, ?_, ?_⟩
      · rw [hcell 0, ← u0]; rfl
      · rw [hcell 1, ← v0]; rfl
      · rw [hcell 2, ← u1]; rfl
      · rw [hcell 3, ← v1]; rfl
      · rw [hcell 4, ← u2]; rfl
      · rw [hcell 5, ← v2]; rfl
      · rw [hcell 6, ← u3]; rfl
      · rw [hcell 7, ← v3]; rfl
  obtain rfl := Option.some.inj ((show Tryd.prog.globalNamed "loop.example/g01198/impl.sixTurns" = some 1 by kernel_rfl).symm.trans hg1)
  obtain rfl := Option.some.inj ((show (Tryd.prog.globals[1]?).map (·.type) = some 93 by kernel_rfl).symm.trans ht1)
  have F1 : W.cell? ⟨1, 0, none⟩ = some (.int .i64 1) ∧ W.cell? ⟨1, 1, none⟩ = some (.int .i64 0) ∧ W.cell? ⟨1, 2, none⟩ = some (.int .i64 0) ∧ W.cell? ⟨1, 3, none⟩ = some (.int .i64 1) ∧ W.cell? ⟨1, 4, none⟩ = some (.int .i64 (-1)) ∧ W.cell? ⟨1, 5, none⟩ = some (.int .i64 1) ∧ W.cell? ⟨1, 6, none⟩ = some (.int .i64 (-1)) ∧ W.cell? ⟨1, 7, none⟩ = some (.int .i64 0) ∧ W.cell? ⟨1, 8, none⟩ = some (.int .i64 0) ∧ W.cell? ⟨1, 9, none⟩ = some (.int .i64 (-1)) ∧ W.cell? ⟨1, 10, none⟩ = some (.int .i64 1) ∧ W.cell? ⟨1, 11, none⟩ = some (.int .i64 (-1)) := by
    obtain ⟨xs, m, rfl, hx, hlen, hn, hel⟩ := DataW.trod_array Tryd.underlying93 hd1
    have ce : Tryd.prog.cellsOf 66 = 2 := by kernel_rfl
    have ca : Tryd.prog.cellsOf 93 = 12 := by kernel_rfl
    rw [ca] at hlen
    have hcell := fun k => World.var?_cell hg1 hv1 k
    obtain ⟨csl⟩ := cs1
    simp only at hlen hel
    simp only [Prod.mk.injEq] at hx
    have hx1 := (DataW.agg.inj hx.1).symm
    have h0_ := hel 0 (by decide)
    have h1_ := hel 1 (by decide)
    have h2_ := hel 2 (by decide)
    have h3_ := hel 3 (by decide)
    have h4_ := hel 4 (by decide)
    have h5_ := hel 5 (by decide)
    rw [ce] at h0_ h1_ h2_ h3_ h4_ h5_
    match csl, hlen, xs, hn, hx1, h0_, h1_, h2_, h3_, h4_, h5_ with
    | [c1_0, c1_1, c1_2, c1_3, c1_4, c1_5, c1_6, c1_7, c1_8, c1_9, c1_10, c1_11], _, [x0, x1, x2, x3, x4, x5], _, hx1, h0_, h1_, h2_, h3_, h4_, h5_ =>
      simp only [List.map_cons, List.map_nil, List.cons.injEq, and_true] at hx1
      obtain ⟨k0, k1, k2, k3, k4, k5⟩ := hx1
      change DataW.trod _ _ _ _ _ _ _ 66 [c1_0, c1_1] = some x0 at h0_
      obtain ⟨u0, v0⟩ := pair_el Tryd.underlying66 Tryd.underlying3 Tryd.underlying3 rfl rfl (by kernel_rfl) (by kernel_rfl) h0_ k0
      change DataW.trod _ _ _ _ _ _ _ 66 [c1_2, c1_3] = some x1 at h1_
      obtain ⟨u1, v1⟩ := pair_el Tryd.underlying66 Tryd.underlying3 Tryd.underlying3 rfl rfl (by kernel_rfl) (by kernel_rfl) h1_ k1
      change DataW.trod _ _ _ _ _ _ _ 66 [c1_4, c1_5] = some x2 at h2_
      obtain ⟨u2, v2⟩ := pair_el Tryd.underlying66 Tryd.underlying3 Tryd.underlying3 rfl rfl (by kernel_rfl) (by kernel_rfl) h2_ k2
      change DataW.trod _ _ _ _ _ _ _ 66 [c1_6, c1_7] = some x3 at h3_
      obtain ⟨u3, v3⟩ := pair_el Tryd.underlying66 Tryd.underlying3 Tryd.underlying3 rfl rfl (by kernel_rfl) (by kernel_rfl) h3_ k3
      change DataW.trod _ _ _ _ _ _ _ 66 [c1_8, c1_9] = some x4 at h4_
      obtain ⟨u4, v4⟩ := pair_el Tryd.underlying66 Tryd.underlying3 Tryd.underlying3 rfl rfl (by kernel_rfl) (by kernel_rfl) h4_ k4
      change DataW.trod _ _ _ _ _ _ _ 66 [c1_10, c1_11] = some x5 at h5_
      obtain ⟨u5, v5⟩ := pair_el Tryd.underlying66 Tryd.underlying3 Tryd.underlying3 rfl rfl (by kernel_rfl) (by kernel_rfl) h5_ k5
      refine ⟨?_, ?_, ?_, ?_, ?_, ?_, ?_, ?_, ?_, ?_, ?_, ?_⟩
      · rw [hcell 0, ← u0]; rfl
      · rw [hcell 1, ← v0]; rfl
      · rw [hcell 2, ← u1]; rfl
      · rw [hcell 3, ← v1]; rfl
      · rw [hcell 4, ← u2]; rfl
      · rw [hcell 5, ← v2]; rfl
      · rw [hcell 6, ← u3]; rfl
      · rw [hcell 7, ← v3]; rfl
      · rw [hcell 8, ← u4]; rfl
      · rw [hcell 9, ← v4]; rfl
      · rw [hcell 10, ← u5]; rfl
      · rw [hcell 11, ← v5]; rfl
  obtain ⟨a0, a1, a2, a3, a4, a5, a6, a7⟩ := F0
  obtain ⟨b0, b1, b2, b3, b4, b5, b6, b7, b8, b9, b10, b11⟩ := F1
  intro a
  by_cases c : a = 4
  · have e1 : turnsA a = some ⟨0, 0, none⟩ := if_pos c
    have e2 : turnsL a = [⟨1, 0⟩, ⟨0, 1⟩, ⟨-1, 0⟩, ⟨0, -1⟩] := if_pos c
    rw [e1, e2]
    refine ⟨rfl, by decide, fun _ => ⟨_, rfl, fun j p hj => ?_⟩⟩
    match j, hj with
    | 0, hj =>
      obtain rfl := Option.some.inj hj
      refine ⟨_, rfl, k66_mk W _, fun i u hu => ?_⟩
      match i, hu with
      | 0, hu => (obtain rfl := Option.some.inj hu; exact a0)
      | 1, hu => (obtain rfl := Option.some.inj hu; exact a1)
      | _ + 2, hu => simp at hu
    | 1, hj =>
      obtain rfl := Option.some.inj hj
      refine ⟨_, rfl, k66_mk W _, fun i u hu => ?_⟩
      match i, hu with
      | 0, hu => (obtain rfl := Option.some.inj hu; exact a2)
      | 1, hu => (obtain rfl := Option.some.inj hu; exact a3)
      | _ + 2, hu => simp at hu
    | 2, hj =>
      obtain rfl := Option.some.inj hj
      refine ⟨_, rfl, k66_mk W _, fun i u hu => ?_⟩
      match i, hu with
      | 0, hu => (obtain rfl := Option.some.inj hu; exact a4)
      | 1, hu => (obtain rfl := Option.some.inj hu; exact a5)
      | _ + 2, hu => simp at hu
    | 3, hj =>
      obtain rfl := Option.some.inj hj
      refine ⟨_, rfl, k66_mk W _, fun i u hu => ?_⟩
      match i, hu with
      | 0, hu => (obtain rfl := Option.some.inj hu; exact a6)
      | 1, hu => (obtain rfl := Option.some.inj hu; exact a7)
      | _ + 2, hu => simp at hu
    | _ + 4, hj => simp at hj
  · have e1 : turnsA a = some ⟨1, 0, none⟩ := if_neg c
    have e2 : turnsL a = [⟨1, 0⟩, ⟨0, 1⟩, ⟨-1, 1⟩, ⟨-1, 0⟩, ⟨0, -1⟩, ⟨1, -1⟩] := if_neg c
    rw [e1, e2]
    refine ⟨rfl, by decide, fun _ => ⟨_, rfl, fun j p hj => ?_⟩⟩
    match j, hj with
    | 0, hj =>
      obtain rfl := Option.some.inj hj
      refine ⟨_, rfl, k66_mk W _, fun i u hu => ?_⟩
      match i, hu with
      | 0, hu => (obtain rfl := Option.some.inj hu; exact b0)
      | 1, hu => (obtain rfl := Option.some.inj hu; exact b1)
      | _ + 2, hu => simp at hu
    | 1, hj =>
      obtain rfl := Option.some.inj hj
      refine ⟨_, rfl, k66_mk W _, fun i u hu => ?_⟩
      match i, hu with
      | 0, hu => (obtain rfl := Option.some.inj hu; exact b2)
      | 1, hu => (obtain rfl := Option.some.inj hu; exact b3)
      | _ + 2, hu => simp at hu
    | 2, hj =>
      obtain rfl := Option.some.inj hj
      refine ⟨_, rfl, k66_mk W _, fun i u hu => ?_⟩
      match i, hu with
      | 0, hu => (obtain rfl := Option.some.inj hu; exact b4)
      | 1, hu => (obtain rfl := Option.some.inj hu; exact b5)
      | _ + 2, hu => simp at hu
    | 3, hj =>
      obtain rfl := Option.some.inj hj
      refine ⟨_, rfl, k66_mk W _, fun i u hu => ?_⟩
      match i, hu with
      | 0, hu => (obtain rfl := Option.some.inj hu; exact b6)
      | 1, hu => (obtain rfl := Option.some.inj hu; exact b7)
      | _ + 2, hu => simp at hu
    | 4, hj =>
      obtain rfl := Option.some.inj hj
      refine ⟨_, rfl, k66_mk W _, fun i u hu => ?_⟩
      match i, hu with
      | 0, hu => (obtain rfl := Option.some.inj hu; exact b8)
      | 1, hu => (obtain rfl := Option.some.inj hu; exact b9)
      | _ + 2, hu => simp at hu
    | 5, hj =>
      obtain rfl := Option.some.inj hj
      refine ⟨_, rfl, k66_mk W _, fun i u hu => ?_⟩
      match i, hu with
      | 0, hu => (obtain rfl := Option.some.inj hu; exact b10)
      | 1, hu => (obtain rfl := Option.some.inj hu; exact b11)
      | _ + 2, hu => simp at hu
    | _ + 6, hj => simp at hj
set_option maxRecDepth 100000 in
theorem lifted (os : Os) (started : os.Started) (H : Type) (enc : TypeId × Value → H) :
    ReturnsInHanded {} Tryd.checked os 3 .any (fun w args => (Rows.fnTonesFoundSpec.pre enc Tryd.prog Tryd.f3 Rows.fnTonesFoundRow.domain false w args ∧ laidMetH Tryd.prog laid2 w) ∧ sizedMet enc Tryd.prog Tryd.f3 (OpenSpec.ofChange Rows.fnTonesFoundSpec) false w args) (Rows.fnTonesFoundSpec.post enc Tryd.prog Tryd.f3 false true false false) := by
  refine returnsInHanded_of_change_and (C := Tryd.checked) (X := fun w _ => laidMetH Tryd.prog laid2 w) (fun _ _ _ hh h => h.of_heap hh) own started (by kernel_rfl) Tryd.func3
    (ChangeSpec.witness_shaped (enc := enc) (C := Tryd.checked) (os := os) (X := fun w _ => laidMetH Tryd.prog laid2 w) false (World.doorLaid Tryd.prog 60 os) #[.slice none 0 0, .slice none 0 0] 8 rfl (World.shaped_of_RefB (by kernel_rfl) (by kernel_rfl)) (by kernel_rfl) (by kernel_rfl) (by kernel_rfl) (door_met os _)) ?_
  intro W base args ds gs before hval0 hW hcnd hsz0 hL _
  have hsz : (DataW.weightsEach Tryd.prog (Tryd.f3.params.toList ++ Rows.fnTonesFoundSpec.plain.varTypes Tryd.prog) (ds ++ gs)).all (· ≤ reachBytes) = true := hsz0
  have hval : ∀ (j : Nat) t v, Tryd.f3.params[j]? = some t → args[j]? = some v → Value.okWide Tryd.prog W .any base t v := hval0
  have hW' := hW
  obtain ⟨p, q, hA0, hV, rfl, hfz, hnd⟩ := hW
  have hA : DataW.TrodAll enc Tryd.prog W 0 (fun _ => true) true Tryd.f3.params.toList args.toList ds p := hA0
  rw [Tryd.params3] at hA hval hsz
  obtain ⟨v0, vs0, d0, ds0, p0, q0, hargs, rfl, rfl, h0, r0⟩ := trodAll_cons hA
  obtain ⟨v1, vs1, d1, ds1, p1, q1, rfl, rfl, rfl, h1, r1⟩ := trodAll_cons r0
  obtain ⟨rfl, rfl, rfl⟩ := trodAll_nil r1
  obtain rfl : args = #[v0, v1] := by cases args; simp_all
  have hV' := hV
  obtain ⟨_, _, _, _, g1, _, _, _, _, _, g2, _, rfl, _⟩ := trodVars_two hV'
  obtain ⟨a0, len0, cap0, rfl⟩ := okWide_slice Tryd.underlying22 (hval 0 22 v0 rfl rfl)
  have k0 := h0
  have lt0 : ∀ x ∈ p0, x.block < W.heap.size := by obtain ⟨m, hm⟩ := k0; exact DataW.trod_lt m _ _ _ hm
  obtain ⟨z0, w0⟩ : ∃ zs, IsRow .u8 W a0 len0 cap0 zs := by
    obtain ⟨fuel, hf⟩ := h0
    rcases open_ints Tryd.underlying22 Tryd.underlying5 (by kernel_rfl) hf with ⟨hcs, _⟩ | ⟨x, l, c, zs, hcs, _, hl, hm, hz, _, hcell, hwz⟩
    · simp [Value.cells] at hcs
      obtain ⟨rfl, rfl, rfl⟩ := hcs
      exact ⟨[], .inl ⟨rfl, rfl, rfl, rfl⟩⟩
    · simp [Value.cells] at hcs
      obtain ⟨rfl, rfl, rfl⟩ := hcs
      exact ⟨zs, .inr ⟨_, rfl, hl, hm, by simpa using hz, hcell, hwz⟩⟩
  have y0 : len0 * 1 ≤ 140737488351232 := Go.Proofs.YtjplcongellcmaaDoorW.PrintWords.sized_ints hsz (j := 0) (t := 22) rfl rfl Tryd.underlying22 Tryd.underlying5 (by kernel_rfl) (by kernel_rfl) h0
  obtain ⟨a1, len1, cap1, rfl⟩ := okWide_slice Tryd.underlying22 (hval 1 22 v1 rfl rfl)
  have k1 := h1
  have lt1 : ∀ x ∈ p1, x.block < W.heap.size := by obtain ⟨m, hm⟩ := k1; exact DataW.trod_lt m _ _ _ hm
  obtain ⟨z1, w1⟩ : ∃ zs, IsRow .u8 W a1 len1 cap1 zs := by
    obtain ⟨fuel, hf⟩ := h1
    rcases open_ints Tryd.underlying22 Tryd.underlying5 (by kernel_rfl) hf with ⟨hcs, _⟩ | ⟨x, l, c, zs, hcs, _, hl, hm, hz, _, hcell, hwz⟩
    · simp [Value.cells] at hcs
      obtain ⟨rfl, rfl, rfl⟩ := hcs
      exact ⟨[], .inl ⟨rfl, rfl, rfl, rfl⟩⟩
    · simp [Value.cells] at hcs
      obtain ⟨rfl, rfl, rfl⟩ := hcs
      exact ⟨zs, .inr ⟨_, rfl, hl, hm, by simpa using hz, hcell, hwz⟩⟩
  have y1 : len1 * 1 ≤ 140737488351232 := Go.Proofs.YtjplcongellcmaaDoorW.PrintWords.sized_ints hsz (j := 1) (t := 22) rfl rfl Tryd.underlying22 Tryd.underlying5 (by kernel_rfl) (by kernel_rfl) h1
  clear hA0 hval0 hsz0 hsz
  refine (PFnTonesFound.laws_FnTonesFound.walk Pure.FnTonesFound a0 len0 cap0 z0 a1 len1 cap1 z1 W (glob hL) w0 y0 w1 y1).mono fun e W' ⟨he, bel⟩ => ?_
  subst he
  exact ⟨_, rfl, _, _, _, [], _, _, hW', trodAll_mk1 (shut_bool Tryd.underlying4 _), (trodAll_cons_mk (Below.trod laidOut (by kernel_rfl) (of_decide_eq_true (by kernel_rfl)) k0 bel lt0) (trodAll_cons_mk (Below.trod laidOut (by kernel_rfl) (of_decide_eq_true (by kernel_rfl)) k1 bel lt1) trodAll_mk0)), (Below.trodVars laidOut bel (by kernel_rfl) hV), bel.frame _, fun h => by cases h⟩
set_option maxHeartbeats 8000000 in
theorem over : Rows.fnTonesFoundRow.holds Tryd.pinned (OpenSpec.ofChange Rows.fnTonesFoundSpec) :=
  OpenClaim.holds_of_wide 3 Tryd.f3 rfl rfl rfl rfl rfl rfl rfl ⟨rfl, rfl, rfl, rfl, rfl⟩ rfl rfl rfl rfl rfl (by as_aux_lemma => kernel_rfl) Tryd.func3 (by as_aux_lemma => kernel_rfl)
    (of_decide_eq_true (by as_aux_lemma => kernel_rfl)) (by as_aux_lemma => unfold Func.isWrapper; first | (rw [if_pos (by decide +kernel)]; kernel_rfl) | (rw [if_neg (by decide +kernel)]; exact ⟨rfl, rfl⟩))
    (fun os started H enc _ => lifted os started H enc)
theorem proved : Rows.FnTonesFoundSaid := over
#print axioms proved
set_option maxRecDepth 100000 in
theorem card : Rows.FnTonesFoundCardSaid :=
  Claim7.holds_tied_plain_at .later [] [.widerDeep, .widerDeep] true (true, "3324820354d69a5225f1c14a2e5d745fab17c7e4649e061711357f4e24b5ffb5") false over (fun _ h => by cases h) (by as_aux_lemma => kernel_rfl) (fun _ h => by cases h) fnTonesFound_row_tie rfl ⟨rfl, rfl⟩ (by as_aux_lemma => kernel_rfl) rfl
    (fun f fn hf hfn => by
      obtain rfl : f = 3 := Option.some.inj ((show Tryd.prog.funcNamed "loop.example/g01198/laws.FnTonesFound" = some 3 by kernel_rfl).symm.trans hf) |>.symm
      obtain rfl : fn = Tryd.f3 := (Option.some.inj (Tryd.func3.symm.trans hfn)).symm
      exact ⟨by kernel_rfl, fun j t ht => by
        rw [Tryd.params3] at ht
        have hm : t ∈ [22, 22] := by simpa using Array.mem_of_getElem? ht
        have hall : ([22, 22].all fun u => !Tryd.prog.wantsStandIn u) = true := by kernel_rfl
        exact (show Tryd.prog.wantsStandIn t = false by simpa using List.all_eq_true.1 hall t hm)⟩)
    (by as_aux_lemma => kernel_rfl)
#print axioms card
end Go.Proofs.YtjplcongellcmaaDoor.fnTonesFound
namespace Go.Proofs.YtjplcongellcmaaDoor
/-- The row, under a short name, for the claim. -/
theorem fnTonesFound_holds : Rows.FnTonesFoundCardSaid := fnTonesFound.card
end Go.Proofs.YtjplcongellcmaaDoor
