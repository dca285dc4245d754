/- What each Go function that the statement FnPhasesWork reaches answers, proved call by call. No condition beyond those that the theorems print. (Written by wip/tools/xprint.py of this repo, over the kit's print.) -/
import Derived.Test.YtjplcongellcmaaProg
import Derived.Below
import Derived.Deep.Draws
import Derived.Deep.AppendLies
import Derived.Maps.AppendAt
import Derived.OwnWalk
import Derived.Laws.BytesArg
import Derived.Laws.MakeOwn
import Derived.Laws.OwnMore
import Derived.Deep.OwnRows
import Derived.Tactics
import Derived.Lib.ConvBytes
import Derived.Laws.Slices
import Derived.WalkKit
import Derived.KernelRfl
import Derived.RowKit3
import Derived.Deep.LoopGhost
import Derived.Deep.QuietTactic
import Derived.BigQuiet
import Derived.WideLaws
import Derived.Deep.DeepCutAuto
import Derived.Deep.CutBlock
import Derived.Deep.RegionHeld3
import Derived.Laws.Rows
import Derived.Lib.AppendStr
import Derived.ArgAppend
import Derived.Laws.IdiomCopy
import Derived.OrdersHeld
import Derived.Laws.BitsLemmas
import Derived.RowKit
import Derived.StillTailTactics
import Derived.Test.YtjplcongellcmaaWWords
import Derived.Test.YtjplcongellcmaaWLast
import Derived.Test.YtjplcongellcmaaWTab
import Derived.Test.YtjplcongellcmaaWFour
import Derived.Test.YtjplcongellcmaaWQPut
import Derived.Test.YtjplcongellcmaaWApart
import Derived.Test.YtjplcongellcmaaWArr
import Derived.Test.YtjplcongellcmaaWZeros
import Derived.Test.YtjplcongellcmaaWFoot
import Derived.Test.YtjplcongellcmaaWKept
import Derived.Test.YtjplcongellcmaaWShare
import Derived.Test.YtjplcongellcmaaWN
import Derived.Test.YtjplcongellcmaaWFootNe
import Derived.Test.YtjplcongellcmaaWAt
import Derived.Test.YtjplcongellcmaaWEqStruct
import Derived.Test.YtjplcongellcmaaWRepsOne
import Derived.Test.YtjplcongellcmaaWInv
import Derived.Test.YtjplcongellcmaaWInvWords
import Derived.Test.YtjplcongellcmaaWGuard
import Derived.Test.YtjplcongellcmaaWNEv
import Derived.Test.YtjplcongellcmaaWMore
namespace Go.Proofs.Ytjplcongellcmaa.PFnPhasesWork
open Go.RowKit Go.Proofs.YtjplcongellcmaaW.PrintWords Go.Proofs.YtjplcongellcmaaW.PrintLast Go.Proofs.YtjplcongellcmaaW.PrintMore
attribute [local go_sem] max2_int min2_int max_two min_two max_three min_three max_four min_four   -- for this text's walks alone
set_option linter.unusedVariables false
set_option linter.unusedSimpArgs false



def errW : Option Int → Value
 | none => .nilIface
 | some c => .iface 0 (.int .i64 c)
theorem errW_none : errW none = .nilIface := rfl
theorem errW_some (c : Int) : errW (some c) = .iface 0 (.int .i64 c) := rfl

theorem info3 : (Try.prog.info? 3).map (fun i => (i.zero, i.size, i.bytes)) = some (some (.int .i64 0), 1, 8) := by kernel_rfl
theorem info24 : (Try.prog.info? 24).map (fun i => (i.zero, i.size, i.bytes)) = some (some (.slice none 0 0), 1, 24) := by kernel_rfl
-- the values' own types
def rd_L2 (xs : List (List Int)) (i : Int) : (List Int) := xs.getD i.toNat ([] : List Int)
theorem at_L2 {w : World} {A : Option Addr} {n : Nat} {xs : List (List Int)} (h : Kd.C (Kd.slice 3 (Kd.int .i64)) w A n xs) (i : Int) (h0 : 0 ≤ i) (h1 : i < n) : ∃ ad A0 c0, A = some ad ∧ w.cell? (ad.add i.toNat) = some (.slice A0 (rd_L2 xs i).length c0) ∧ (rd_L2 xs i).length ≤ c0 ∧ (Kd.int .i64).C w A0 (rd_L2 xs i).length (rd_L2 xs i) := by
 obtain ⟨ad, c, e, _, hK, hc0⟩ := Kd.C_get h ([] : List Int) i h0 h1
 have hc : ∀ j u, c[j]? = some u → w.cell? (ad.add (i.toNat * 1 + j)) = some u := hc0
 obtain ⟨A0, c0, rfl, l0, g0⟩ := hK
 exact ⟨ad, A0, c0, e, by have hq := hc 0 _ rfl; rwa [Nat.mul_one, Nat.add_zero] at hq, l0, g0⟩

theorem xR {p q : Prop} (h : p) (g : p → q := by intro h_; (with_reducible repeat (first | apply Kd.R_alloc | apply Kd.R_drewN | apply Kd.R_drew)); exact h_) : q := g h
theorem xS {p q : Prop} (h : p) (g : p → q := by intro h_; (with_reducible repeat (first | apply Kd.S_alloc | apply Kd.S_drewN | apply Kd.S_drew)); exact h_) : q := g h
theorem xB {p q : Prop} (h : p) (g : p → q := by intro h_; repeat (first | (with_reducible first | exact h_ | apply below_alloc | apply pw_below_drewN | apply below_drew1) | exact h_)) : q := g h
theorem xC {p q : Prop} (h : p) (g : p → q := by intro h_; repeat (first | exact h_ | (with_reducible refine Kd.C_alloc ?_ _) | (with_reducible refine Kd.C_drewN ?_ _) | (with_reducible refine Kd.C_drew ?_))) : q := g h
theorem xE {α : Type} {a b : α} (g : a = b := by (simp only [Act.put, List.setIfInBounds_toArray, List.set_cons_zero, List.set_cons_succ, i64_w, i32_w]; rfl)) : a = b := g
theorem xD {p : Prop} (g : p := by first | exact ⟨rfl, _, World.drewN_drewN _ _ _⟩ | exact ⟨rfl, _, Eq.trans (World.drewN_drewN _ _ _) (congrArg (World.drewN _) (Nat.add_assoc _ _ _))⟩) : p := g
theorem xM {p : Prop} (g : p := by repeat' first | (with_reducible first | exact ih0 .. | exact ih1 .. | exact ih2 .. | exact ih3 .. | exact ih4 .. | exact ih5 .. | exact LeO.refl _ | exact LeO.none _ | exact m0 .. | exact m1 .. | exact m2 .. | exact m3 .. | exact m4 .. | exact m5 .. | refine LeO.ite ?_ ?_ | refine LeO.bind ?_ (fun _ => ?_) | exact ih6 .. | exact ih7 .. | exact ih8 .. | exact ih9 .. | exact ih10 .. | exact ih11 .. | exact ih12 .. | exact ih13 .. | exact ih14 .. | exact ih15 .. | exact ih16 .. | exact ih17 .. | exact ih18 .. | exact ih19 .. | exact ih20 .. | exact ih21 .. | exact ih22 .. | exact ih23 .. | exact m6 .. | exact m7 .. | exact m8 .. | exact m9 .. | exact m10 .. | exact m11 .. | exact m12 .. | exact m13 .. | exact m14 .. | exact m15 .. | exact m16 .. | exact m17 .. | exact m18 .. | exact m19 .. | exact m20 .. | exact m21 .. | exact m22 .. | exact m23 .. | exact m24 .. | exact m25 .. | exact m26 .. | exact m27 .. | exact m28 .. | exact m29 .. | exact m30 .. | exact m31 .. | exact m32 .. | exact m33 .. | exact m34 .. | exact m35 .. | exact m36 .. | exact m37 .. | exact m38 .. | exact m39 ..) | exact ih0 .. | exact ih1 .. | exact ih2 .. | exact ih3 .. | exact ih4 .. | exact ih5 .. | exact ih6 .. | exact ih7 .. | exact ih8 .. | exact ih9 .. | exact ih10 .. | exact ih11 .. | exact ih12 .. | exact ih13 .. | exact ih14 .. | exact ih15 .. | exact ih16 .. | exact ih17 .. | exact ih18 .. | exact ih19 .. | exact ih20 .. | exact ih21 .. | exact ih22 .. | exact ih23 .. | exact m0 .. | exact m1 .. | exact m2 .. | exact m3 .. | exact m4 .. | exact m5 .. | exact m6 .. | exact m7 .. | exact m8 .. | exact m9 .. | exact m10 .. | exact m11 .. | exact m12 .. | exact m13 .. | exact m14 .. | exact m15 .. | exact m16 .. | exact m17 .. | exact m18 .. | exact m19 .. | exact m20 .. | exact m21 .. | exact m22 .. | exact m23 .. | exact m24 .. | exact m25 .. | exact m26 .. | exact m27 .. | exact m28 .. | exact m29 .. | exact m30 .. | exact m31 .. | exact m32 .. | exact m33 .. | exact m34 .. | exact m35 .. | exact m36 .. | exact m37 .. | exact m38 .. | exact m39 .. | exact LeO.none _ | refine LeO.ite ?_ ?_ | refine LeO.bind ?_ (fun _ => ?_)) : p := g
theorem xG {P : Program} {ops : Array Oper} {Q : Exit → Act → World → Prop} {rest : List Oper} {oi : Oper} {a : Act} {w : World} {f : FuncId} {fn : Func} {as_ : Array Operand} {ts : Array TypeId} (N : Option Tmp) (hf : P.funcs[f]? = some fn) (args : Array Value)
    (h : Calls P f args w fun e w' => ∃ v, e = .returned v ∧ wpList P ops Q rest (a.put N v) w')
    (hop : oi.op = .call { callee := .value (.func f), args := as_, argTypes := ts } := by with_reducible rfl) (hd : oi.dst = N := by rfl) (hg : oi.guard = none := by rfl) (hname : (fn.name == "runtime.NumGoroutine") = false := by kernel_rfl) (hb : fn.body.isSome = true := by rfl) (hargs : as_.map a.eval = args := by (try simp only [List.map_toArray, List.map_cons, List.map_nil]); first | done | rfl | (simp only [List.length_drop, List.length_take]; rfl)) : wpList P ops Q (oi :: rest) a w :=
  goesL_ N hd hg hf hname hb args hop hargs h
theorem xV {P : Program} {ops : Array Oper} {rest : List Oper} {o : Oper} {a : Act} {Q : Exit → Act → World → Prop} {W : World} (N : Tmp) (cs : Array Value) (t : TypeId)
    (h : ∀ g, g = W.heap.size → ∀ w1, w1.heap[g]? = some (.cells cs t (0, 0)) → Below W.heap.size W w1 → wpList P ops Q rest (a.put o.dst (.pointer (some ⟨g, 0, none⟩))) w1)
    (hd : o.dst = some N := by with_reducible rfl) (hg : o.guard = none := by rfl)
    (hrun : (execOp a.eval o).run P W = .ok (.value (.pointer (some ⟨W.heap.size, 0, none⟩))) (W.alloc (.cells cs t (0, 0))) := by first | (go_simp; done) | (go_simp; rfl)) : wpList P ops Q (o :: rest) a W :=
  box_event hg hd hrun h
theorem xO {α β : Type} {g : Option α} {f : α → Option β} {r : β} (h : g.bind f = some r) : ∃ t, Aside0 (g = some t) ∧ f t = some r := by
  obtain ⟨t, h1, h2⟩ := Option.bind_eq_some_iff.mp h
  exact ⟨t, ⟨h1⟩, h2⟩
end Go.Proofs.Ytjplcongellcmaa.PFnPhasesWork
