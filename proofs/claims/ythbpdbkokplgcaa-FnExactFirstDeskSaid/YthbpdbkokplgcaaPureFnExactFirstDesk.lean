/- The program's FirstDesk returns what the reference's returns. Conditions: none beyond those that the statement itself prints. -/
import Derived.Test.YthbpdbkokplgcaaPFnExactFirstDeskx1
namespace Go.Proofs.Ythbpdbkokplgcaa.Pure
open Go.RowKit Go.Proofs.Ythbpdbkokplgcaa.PFnExactFirstDesk Go.Proofs.YthbpdbkokplgcaaW.PrintWords Go.Proofs.YthbpdbkokplgcaaW.PrintLast Go.Proofs.YthbpdbkokplgcaaW.PrintMore
set_option linter.unusedVariables false
set_option linter.unusedSimpArgs false

theorem w64 {n : Int} (h1 : -9223372036854775808 ≤ n) (h2 : n ≤ 9223372036854775807) : wrap64 n = n := by
  unfold wrap64
  omega
theorem Ev.to {α : Type} {g : Nat → Option α} {r r' : α} (h : Ev g r) (e : r = r') : Ev g r' := e ▸ h
theorem Ev.const {α : Type} {g : Option α} {r : α} (h : g = some r) : Ev (fun _ => g) r := ⟨0, fun _ _ => h⟩
theorem Ev.dbind {α β : Type} {g : Option α} {f : Nat → α → Option β} {a : α} {r : β} (h : g = some a) (k : Ev (fun n => f n a) r) : Ev (fun n => g.bind (f n)) r :=
  Ev.bind (g := fun _ => g) (Ev.const h) k
theorem Ev.tt {α : Type} {c : Prop} {_ : Decidable c} {g f : Nat → Option α} {r : α} (h : c) (k : Ev g r) : Ev (fun n => if c then g n else f n) r := by
  simpa only [if_pos h] using k
theorem Ev.ff {α : Type} {c : Prop} {_ : Decidable c} {g f : Nat → Option α} {r : α} (h : ¬ c) (k : Ev f r) : Ev (fun n => if c then g n else f n) r := by
  simpa only [if_neg h] using k
theorem rd_mid (p t : List Int) (x : Int) : rd (p ++ x :: t) (p.length : Int) = x := by
  simp [rd]
theorem lt_mid {α : Type} (p t : List α) (x : α) : (p.length : Int) < ((p ++ x :: t).length : Int) := by
  simp
  omega
theorem nx_mid {α : Type} (p t : List α) (x : α) (h : (p ++ x :: t).length ≤ 140737488351232) : wrap64 ((p.length : Int) + 1) = ((p ++ [x]).length : Int) := by
  simp at h ⊢
  exact w64 (by omega) (by omega)
theorem ap_mid {α : Type} (p t : List α) (x : α) : p ++ x :: t = (p ++ [x]) ++ t := by simp

theorem laws_eqIntS_l0 (l m : List Int) (hl : l.length ≤ 140737488351232) : ∀ (t p u q : List Int), l = p ++ t → m = q ++ u → p.length = q.length → t.length = u.length → Ev (fun k => laws_eqIntS.l0 k l m (p.length : Int)) (t == u)
  | [], p, [], q, h, h', e, _ => by
    apply Ev.step (f := fun _ => some _)
    · intro k
      subst h
      simp [laws_eqIntS.l0]; rfl
    · exact Ev.now _
  | x :: t, p, y :: u, q, h, h', e, e' => by
    have e1 : (p.length : Int) < (l.length : Int) := by rw [h]; exact lt_mid p t x
    have e2 : rd l (p.length : Int) = x := by rw [h]; exact rd_mid p t x
    have e3 : wrap64 ((p.length : Int) + 1) = ((p ++ [x]).length : Int) := nx_mid p t x (h ▸ hl)
    have e4 : (p.length : Int) < (m.length : Int) := by rw [h', e]; exact lt_mid q u y
    have e5 : rd m (p.length : Int) = y := by rw [h', e]; exact rd_mid q u y
    by_cases c : x = y
    · refine Ev.to (Ev.step (fun k => ?_) (laws_eqIntS_l0 l m hl t (p ++ [x]) u (q ++ [y]) (by simp [h]) (by simp [h']) (by simp [e]) (by simpa using e'))) (by simp [c])
      simp only [laws_eqIntS.l0, if_pos e1, if_pos (Int.natCast_nonneg _), if_pos e4, e2, e3, e5, if_pos c]
    · refine Ev.to (Ev.step (fun k => ?_) (Ev.now false)) (by simp [c])
      simp only [laws_eqIntS.l0, if_pos e1, if_pos (Int.natCast_nonneg _), if_pos e4, e2, e3, e5, if_neg c]
theorem laws_eqIntS_ev (l m : List Int) (hl : l.length ≤ 140737488351232) : Ev (fun k => laws_eqIntS.f k l m) (l == m) := by
  simp only [laws_eqIntS.f]
  by_cases c : (l.length : Int) = (m.length : Int)
  · exact Ev.tt c (laws_eqIntS_l0 l m hl l [] m [] rfl rfl rfl (by omega))
  · refine Ev.ff c (Ev.to (Ev.now false) ?_)
    have : l ≠ m := fun h => c (by rw [h])
    simp [this]
theorem laws_eqIntS_self (l : List Int) (hl : l.length ≤ 140737488351232) : Ev (fun k => laws_eqIntS.f k l l) true := Ev.to (laws_eqIntS_ev l l hl) (by simp)

def marks : Nat → Int → List Int
  | 0, _ => []
  | n + 1, m => m :: marks n (m + 1)
theorem marks_length : ∀ (n : Nat) (m : Int), (marks n m).length = n
  | 0, _ => rfl
  | n + 1, m => by simp [marks, marks_length n]
theorem laws_markIntS_l0 : ∀ (t p : List Int) (m : Int), p.length + t.length ≤ 140737488351232 → 0 ≤ m → m + t.length ≤ 1000000000000000000 → Ev (fun k => laws_markIntS.l0 k (p ++ t) m (p.length : Int)) (m + t.length, p ++ marks t.length m)
  | [], p, m, h, h0, h1 => Ev.to (Ev.step (f := fun _ => some (m, p)) (fun k => by simp [laws_markIntS.l0]) (Ev.now _)) (by simp [marks])
  | x :: t, p, m, h, h0, h1 => by
    have e1 : (p.length : Int) < ((p ++ x :: t).length : Int) := lt_mid p t x
    simp only [List.length_cons] at h h1
    have e3 : wrap64 ((p.length : Int) + 1) = ((p ++ [m]).length : Int) := by
      simp
      exact w64 (by omega) (by omega)
    have e5 : (p ++ x :: t).set (p.length : Int).toNat m = (p ++ [m]) ++ t := by simp
    have e6 : wrap64 (m + 1) = m + 1 := w64 (by omega) (by omega)
    refine Ev.to (Ev.step (fun k => ?_) (laws_markIntS_l0 t (p ++ [m]) (m + 1) (by simp; omega) (by omega) (by omega))) ?_
    · simp only [laws_markIntS.l0, if_pos e1, if_pos (Int.natCast_nonneg _), e3, e5, e6]
    · simp [marks]; omega
theorem laws_markIntS_ev (l : List Int) (m : Int) (h : l.length ≤ 140737488351232) (h0 : 0 ≤ m) (h1 : m ≤ 100000000000000000) : Ev (fun k => laws_markIntS.f k l m) (m + l.length, marks l.length m) := by
  have h := laws_markIntS_l0 l [] m (by simpa using h) h0 (by omega)
  simpa [laws_markIntS.f] using h

theorem laws_heldIntS_l0 : ∀ (n : Nat) (l p : List Int) (m : Int), l = p ++ marks n m → l.length ≤ 140737488351232 → 0 ≤ m → m + n ≤ 1000000000000000000 → Ev (fun k => laws_heldIntS.l0 k l m (p.length : Int)) (m + n)
  | 0, l, p, m, h, hl, h0, h1 => Ev.to (Ev.step (f := fun _ => some m) (fun k => by subst h; simp [laws_heldIntS.l0, marks]) (Ev.now _)) (by simp)
  | n + 1, l, p, m, h, hl, h0, h1 => by
    simp only [marks] at h
    have e1 : (p.length : Int) < (l.length : Int) := by rw [h]; exact lt_mid p _ _
    have e2 : rd l (p.length : Int) = m := by rw [h]; exact rd_mid p _ _
    have e3 : wrap64 ((p.length : Int) + 1) = ((p ++ [m]).length : Int) := nx_mid p _ m (h ▸ hl)
    have e6 : wrap64 (m + 1) = m + 1 := w64 (by omega) (by omega)
    refine Ev.to (Ev.step (fun k => ?_) (laws_heldIntS_l0 n l (p ++ [m]) (m + 1) (by simp [h]) hl (by omega) (by omega))) (by omega)
    simp only [laws_heldIntS.l0, if_pos e1, if_pos (Int.natCast_nonneg _), e2, if_true, e3, e6]
theorem laws_heldIntS_ev (n : Nat) (h : n ≤ 140737488351232) : Ev (fun k => laws_heldIntS.f k (marks n 1) 1) (1 + n) := by
  have h := laws_heldIntS_l0 n (marks n 1) [] 1 rfl (by simpa [marks_length] using h) (by omega) (by omega)
  simpa [laws_heldIntS.f] using h

theorem FnExactFirstDesk : laws_FnExactFirstDesk.Pure := by
  refine ⟨20, ?_⟩
  decide +kernel

end Go.Proofs.Ythbpdbkokplgcaa.Pure
