/- The program's TonePower returns what the reference's returns, for all arguments. Conditions: none beyond those that the statement itself prints. -/
import Derived.Test.YthbpdbkokplgcaaPFnExactTonePowerx2
namespace Go.Proofs.Ythbpdbkokplgcaa.Pure
open Go.RowKit Go.Proofs.Ythbpdbkokplgcaa.PFnExactTonePower Go.Proofs.YthbpdbkokplgcaaW.PrintWords Go.Proofs.YthbpdbkokplgcaaW.PrintLast Go.Proofs.YthbpdbkokplgcaaW.PrintMore
set_option linter.unusedVariables false
set_option linter.unusedSimpArgs false

theorem w64 {n : Int} (h1 : -9223372036854775808 ≤ n) (h2 : n ≤ 9223372036854775807) : wrap64 n = n := by
  unfold wrap64
  omega
theorem Ev.to {α : Type} {g : Nat → Option α} {r r' : α} (h : Ev g r) (e : r = r') : Ev g r' := e ▸ h
theorem Ev.const {α : Type} {g : Option α} {r : α} (h : g = some r) : Ev (fun _ => g) r := ⟨0, fun _ _ => h⟩
theorem Ev.dbind {α β : Type} {g : Option α} {f : Nat → α → Option β} {a : α} {r : β} (h : g = some a) (k : Ev (fun n => f n a) r) : Ev (fun n => g.bind (f n)) r :=
  Ev.bind (g := fun _ => g) (Ev.const h) k
theorem Ev.tt {α : Type} {c : Prop} {_ : Decidable c} {g f : Nat → Option α} {r : α} (h : c) (k : Ev g r) : Ev (fun n => if c then g n else f n) r := by
  simpa only [if_pos h] using k
theorem Ev.ff {α : Type} {c : Prop} {_ : Decidable c} {g f : Nat → Option α} {r : α} (h : ¬ c) (k : Ev f r) : Ev (fun n => if c then g n else f n) r := by
  simpa only [if_neg h] using k
theorem rd_mid (p t : List Int) (x : Int) : rd (p ++ x :: t) (p.length : Int) = x := by
  simp [rd]
theorem lt_mid {α : Type} (p t : List α) (x : α) : (p.length : Int) < ((p ++ x :: t).length : Int) := by
  simp
  omega
theorem nx_mid {α : Type} (p t : List α) (x : α) (h : (p ++ x :: t).length ≤ 140737488351232) : wrap64 ((p.length : Int) + 1) = ((p ++ [x]).length : Int) := by
  simp at h ⊢
  exact w64 (by omega) (by omega)
theorem ap_mid {α : Type} (p t : List α) (x : α) : p ++ x :: t = (p ++ [x]) ++ t := by simp

def backOf (n : Int) : Int × Bool := if n = 3 then (-1, true) else if n = 4 then (0, true) else if n = 6 then (1, true) else (0, false)
def tnF (c : Int) : List Int → Int → Int → Int × Int
  | [], y, z => (y, z)
  | x :: t, y, z => tnF c t (wrap64 ((wrap64 (x + (wrap64 (c * y)))) - z)) y
def sig (l : List Int) : Bool := decide (l.length ≤ 64) && l.all fun x => decide (-100000 ≤ x) && decide (x ≤ 100000)
def toneStates (l : List Int) (n : Int) : Int × Int × Bool := if (backOf n).2 = true then (if sig l = true then ((tnF (backOf n).1 l 0 0).1, (tnF (backOf n).1 l 0 0).2, true) else (0, 0, false)) else (0, 0, false)
theorem sig_len {l : List Int} (h : sig l = true) : l.length ≤ 64 := by
  simp [sig] at h
  exact h.1
theorem sig_mem {l : List Int} (h : sig l = true) : ∀ x ∈ l, -100000 ≤ x ∧ x ≤ 100000 := by
  simp [sig] at h
  exact h.2

theorem spec_l1In_eq (a b c : Int) : spec_l1In.f a b c = some (decide (b ≤ a) && decide (a ≤ c)) := by
  unfold spec_l1In.f
  by_cases h : b ≤ a <;> simp [h]

theorem impl_in_eq (a b c : Int) : impl_in.f a b c = some (decide (b ≤ a) && decide (a ≤ c)) := by
  unfold impl_in.f
  by_cases h : b ≤ a <;> simp [h]

theorem spec_l1All_l0 (lo hi : Int) (l : List Int) (hl : l.length ≤ 140737488351232) : ∀ (t p : List Int), l = p ++ t → Ev (fun k => spec_l1All.l0 k lo hi l (l.length : Int) (p.length : Int)) (t.all fun x => decide (lo ≤ x) && decide (x ≤ hi))
  | [], p, h => by
    apply Ev.step (f := fun _ => some _)
    · intro k
      subst h
      simp [spec_l1All.l0]; rfl
    · exact Ev.now _
  | x :: t, p, h => by
    have e1 : (p.length : Int) < (l.length : Int) := by rw [h]; exact lt_mid p t x
    have e2 : rd l (p.length : Int) = x := by rw [h]; exact rd_mid p t x
    have e3 : wrap64 ((p.length : Int) + 1) = ((p ++ [x]).length : Int) := nx_mid p t x (h ▸ hl)
    by_cases c : (decide (lo ≤ x) && decide (x ≤ hi)) = true
    · refine Ev.to (Ev.step (fun k => ?_) (spec_l1All_l0 lo hi l hl t (p ++ [x]) (by simp [h]))) (by rw [List.all_cons, c, Bool.true_and])
      simp only [spec_l1All.l0, if_pos e1, if_pos (Int.natCast_nonneg _), e2, e3, spec_l1In_eq, Option.bind_some, if_pos c]
    · refine Ev.to (Ev.step (fun k => ?_) (Ev.now false)) (by rw [List.all_cons, Bool.eq_false_iff.mpr c, Bool.false_and])
      simp only [spec_l1All.l0, if_pos e1, if_pos (Int.natCast_nonneg _), e2, e3, spec_l1In_eq, Option.bind_some, if_neg c]
theorem spec_l1All_ev (l : List Int) (lo hi : Int) (hl : l.length ≤ 140737488351232) : Ev (fun k => spec_l1All.f k l lo hi) (l.all fun x => decide (lo ≤ x) && decide (x ≤ hi)) := by
  simpa [spec_l1All.f] using spec_l1All_l0 lo hi l hl l [] rfl

theorem spec_wdSignal_ev (l : List Int) (hl : l.length ≤ 140737488351232) : Ev (fun k => spec_wdSignal.f k l) (sig l) := by
  simp only [spec_wdSignal.f]
  by_cases c : (l.length : Int) ≤ 64
  · refine Ev.tt c (Ev.bind (spec_l1All_ev l (-100000) 100000 hl) (Ev.to (Ev.now _) ?_))
    simp [sig]; omega
  · refine Ev.ff c (Ev.to (Ev.now _) ?_)
    simp [sig]; omega

theorem impl_isSignal_c1_eq (x : Int) : impl_isSignal_c1.f x = some (!(decide (-100000 ≤ x) && decide (x ≤ 100000))) := by
  unfold impl_isSignal_c1.f
  rw [impl_in_eq]
  rfl
theorem indexSignal_l0 (l : List Int) (hl : l.length ≤ 140737488351232) : ∀ (t p : List Int), l = p ++ t → ∃ r, Ev (fun k => slices_IndexFunc_int_int_impl_isSignal_c1.l0 k l (l.length : Int) (p.length : Int)) r ∧ (decide (r ≥ 0) = !(t.all fun x => decide (-100000 ≤ x) && decide (x ≤ 100000)))
  | [], p, h => by
    refine ⟨-1, Ev.step (f := fun _ => some (-1)) ?_ (Ev.now _), by simp⟩
    intro k
    subst h
    simp [slices_IndexFunc_int_int_impl_isSignal_c1.l0]
  | x :: t, p, h => by
    have e1 : (p.length : Int) < (l.length : Int) := by rw [h]; exact lt_mid p t x
    have e2 : rd l (p.length : Int) = x := by rw [h]; exact rd_mid p t x
    have e3 : wrap64 ((p.length : Int) + 1) = ((p ++ [x]).length : Int) := nx_mid p t x (h ▸ hl)
    by_cases c : (decide (-100000 ≤ x) && decide (x ≤ 100000)) = true
    · obtain ⟨r, h1, h2⟩ := indexSignal_l0 l hl t (p ++ [x]) (by simp [h])
      refine ⟨r, Ev.step (fun k => ?_) h1, by rw [h2, List.all_cons, c, Bool.true_and]⟩
      simp only [slices_IndexFunc_int_int_impl_isSignal_c1.l0, if_pos e1, if_pos (Int.natCast_nonneg _), e2, e3, impl_isSignal_c1_eq, c, Option.bind_some, Bool.not_true]
      rfl
    · have c := Bool.eq_false_iff.mpr c
      refine ⟨(p.length : Int), Ev.step (fun k => ?_) (Ev.now _), by rw [List.all_cons, c]; simp⟩
      simp only [slices_IndexFunc_int_int_impl_isSignal_c1.l0, if_pos e1, if_pos (Int.natCast_nonneg _), e2, e3, impl_isSignal_c1_eq, c, Option.bind_some, Bool.not_false]
      rfl
theorem impl_isSignal_ev (l : List Int) (hl : l.length ≤ 140737488351232) : Ev (fun k => impl_isSignal.f k l) (sig l) := by
  simp only [impl_isSignal.f]
  by_cases c : (l.length : Int) ≤ 64
  · obtain ⟨r, h1, h2⟩ := indexSignal_l0 l hl l [] rfl
    refine Ev.tt c (Ev.bind (a := decide (r ≥ 0)) ?_ (Ev.to (Ev.now _) ?_))
    · simp only [slices_ContainsFunc_int_int_impl_isSignal_c1.f, slices_IndexFunc_int_int_impl_isSignal_c1.f]
      exact Ev.bind h1 (Ev.now _)
    · rw [h2]; simp [sig]; omega
  · refine Ev.ff c (Ev.to (Ev.now _) ?_)
    simp [sig]; omega

theorem spec_tnStates_l0 (c : Int) (l : List Int) (hl : l.length ≤ 140737488351232) : ∀ (t p : List Int) (y z : Int), l = p ++ t → Ev (fun k => spec_tnStates.l0 k c y z l (l.length : Int) (p.length : Int)) (tnF c t y z)
  | [], p, y, z, h => by
    apply Ev.step (f := fun _ => some _)
    · intro k
      subst h
      simp [spec_tnStates.l0, tnF]; rfl
    · exact Ev.now _
  | x :: t, p, y, z, h => by
    have e1 : (p.length : Int) < (l.length : Int) := by rw [h]; exact lt_mid p t x
    have e2 : rd l (p.length : Int) = x := by rw [h]; exact rd_mid p t x
    have e3 : wrap64 ((p.length : Int) + 1) = ((p ++ [x]).length : Int) := nx_mid p t x (h ▸ hl)
    refine Ev.step (fun k => ?_) (spec_tnStates_l0 c l hl t (p ++ [x]) _ _ (by simp [h]))
    simp only [spec_tnStates.l0, if_pos e1, if_pos (Int.natCast_nonneg _), e2, e3]
theorem spec_tnStates_ev (l : List Int) (c : Int) (hl : l.length ≤ 140737488351232) : Ev (fun k => spec_tnStates.f k l c) (tnF c l 0 0) := by
  simpa [spec_tnStates.f] using spec_tnStates_l0 c l hl l [] 0 0 rfl

theorem spec_tnBack_eq (n : Int) : spec_tnBack.f n = some (backOf n) := by
  unfold spec_tnBack.f backOf
  repeat' split
  all_goals rfl

theorem impl_toneFactor_eq (n : Int) : impl_toneFactor.f n = some (backOf n) := by
  unfold impl_toneFactor.f backOf
  repeat' split
  all_goals rfl

theorem impl_ToneStates_l0 (c : Int) (l : List Int) (hl : l.length ≤ 140737488351232) : ∀ (t p : List Int) (y z : Int), l = p ++ t → Ev (fun k => impl_ToneStates.l0 k c y z l (l.length : Int) (p.length : Int)) ((tnF c t y z).1, (tnF c t y z).2, true)
  | [], p, y, z, h => by
    apply Ev.step (f := fun _ => some _)
    · intro k
      subst h
      simp [impl_ToneStates.l0, tnF]; rfl
    · exact Ev.now _
  | x :: t, p, y, z, h => by
    have e1 : (p.length : Int) < (l.length : Int) := by rw [h]; exact lt_mid p t x
    have e2 : rd l (p.length : Int) = x := by rw [h]; exact rd_mid p t x
    have e3 : wrap64 ((p.length : Int) + 1) = ((p ++ [x]).length : Int) := nx_mid p t x (h ▸ hl)
    refine Ev.step (fun k => ?_) (impl_ToneStates_l0 c l hl t (p ++ [x]) _ _ (by simp [h]))
    simp only [impl_ToneStates.l0, if_pos e1, if_pos (Int.natCast_nonneg _), e2, e3]
theorem impl_ToneStates_ev (l : List Int) (n : Int) (hl : l.length ≤ 140737488351232) : Ev (fun k => impl_ToneStates.f k l n) (toneStates l n) := by
  simp only [impl_ToneStates.f, toneStates]
  refine Ev.dbind (impl_toneFactor_eq n) ?_
  by_cases c : (backOf n).2 = true
  · rw [if_pos c]
    refine Ev.tt c (Ev.bind (impl_isSignal_ev l hl) ?_)
    by_cases d : sig l = true
    · rw [if_pos d]
      refine Ev.step (fun k => by simp only [impl_ToneStates.j0, d, Bool.not_true]; rfl) (impl_ToneStates_l0 _ l hl l [] 0 0 rfl)
    · rw [if_neg d]
      refine Ev.step (fun k => by simp only [impl_ToneStates.j0, Bool.eq_false_iff.mpr d, Bool.not_false]; rfl) (Ev.now _)
  · rw [if_neg c]
    refine Ev.ff c (Ev.step (fun k => by simp only [impl_ToneStates.j0]; rfl) (Ev.now _))

def tonePow (c : Int) (p : Int × Int) : Int := wrap64 ((wrap64 ((wrap64 (p.1 * p.1)) + (wrap64 (p.2 * p.2)))) - (wrap64 ((wrap64 (c * p.1)) * p.2)))
def tonePower (l : List Int) (n : Int) : Int × Bool := if (backOf n).2 = true then (if sig l = true then (tonePow (backOf n).1 (tnF (backOf n).1 l 0 0), true) else (0, false)) else (0, false)
theorem spec_TonePower_ev (l : List Int) (n : Int) (hl : l.length ≤ 140737488351232) : Ev (fun k => spec_TonePower.f k l n) (tonePower l n) := by
  simp only [spec_TonePower.f, tonePower]
  refine Ev.dbind (spec_tnBack_eq n) ?_
  by_cases c : (backOf n).2 = true
  · rw [if_pos c]
    refine Ev.tt c (Ev.bind (spec_wdSignal_ev l hl) ?_)
    by_cases d : sig l = true
    · rw [if_pos d]
      exact Ev.tt d (Ev.bind (spec_tnStates_ev l _ hl) (Ev.now _))
    · rw [if_neg d]
      exact Ev.ff d (Ev.now _)
  · rw [if_neg c]
    exact Ev.ff c (Ev.now _)

theorem impl_TonePower_ev (l : List Int) (n : Int) (hl : l.length ≤ 140737488351232) : Ev (fun k => impl_TonePower.f k l n) (tonePower l n) := by
  simp only [impl_TonePower.f]
  refine Ev.bind (impl_ToneStates_ev l n hl) (Ev.dbind (impl_toneFactor_eq n) (Ev.to (Ev.now _) ?_))
  unfold toneStates tonePower
  by_cases c : (backOf n).2 = true
  · simp only [if_pos c]
    by_cases d : sig l = true
    · simp only [if_pos d, tonePow]
    · simp only [if_neg d]
      simp [wrap64]
  · simp only [if_neg c]
    simp [wrap64]
theorem TonePower_agree (l : List Int) (n : Int) (hl : l.length ≤ 1048576) : ∃ r, Ev (fun k => spec_TonePower.f k l n) r ∧ Ev (fun k => impl_TonePower.f k l n) r ∧ True :=
  ⟨_, spec_TonePower_ev l n (by omega), impl_TonePower_ev l n (by omega), trivial⟩

theorem laws_toIntS_l0 (l : List Int) (hl : l.length ≤ 140737488351232) : ∀ (t p : List Int), l = p ++ t → Ev (fun k => laws_toIntS.l0 k l (p ++ List.replicate t.length 0) (p.length : Int)) l
  | [], p, h => by
    apply Ev.step (f := fun _ => some l)
    · intro k
      subst h
      simp [laws_toIntS.l0]
    · exact Ev.now _
  | x :: t, p, h => by
    have e1 : (p.length : Int) < (l.length : Int) := by rw [h]; exact lt_mid p t x
    have e2 : rd l (p.length : Int) = x := by rw [h]; exact rd_mid p t x
    have e3 : wrap64 ((p.length : Int) + 1) = ((p ++ [x]).length : Int) := nx_mid p t x (h ▸ hl)
    have e4 : (p.length : Int) < ((p ++ List.replicate (x :: t).length 0 : List Int).length : Int) := by simp; omega
    have e5 : (p ++ List.replicate (x :: t).length 0 : List Int).set (p.length : Int).toNat x = (p ++ [x]) ++ List.replicate t.length 0 := by
      simp [List.replicate_succ]
    refine Ev.step (fun k => ?_) (laws_toIntS_l0 l hl t (p ++ [x]) (by simp [h]))
    simp only [laws_toIntS.l0, if_pos e1, if_pos (Int.natCast_nonneg _), if_pos e4, e2, e3, e5]
theorem laws_toIntS_ev (l : List Int) (hl : l.length ≤ 17592186044416) : Ev (fun k => laws_toIntS.f k l) l := by
  have h := laws_toIntS_l0 l (by omega) l [] rfl
  simp only [laws_toIntS.f]
  refine Ev.tt (Int.natCast_nonneg _) (Ev.tt ?_ ?_)
  · simp; omega
  · simpa using h

theorem laws_eqIntS_l0 (l m : List Int) (hl : l.length ≤ 140737488351232) : ∀ (t p u q : List Int), l = p ++ t → m = q ++ u → p.length = q.length → t.length = u.length → Ev (fun k => laws_eqIntS.l0 k l m (p.length : Int)) (t == u)
  | [], p, [], q, h, h', e, _ => by
    apply Ev.step (f := fun _ => some _)
    · intro k
      subst h
      simp [laws_eqIntS.l0]; rfl
    · exact Ev.now _
  | x :: t, p, y :: u, q, h, h', e, e' => by
    have e1 : (p.length : Int) < (l.length : Int) := by rw [h]; exact lt_mid p t x
    have e2 : rd l (p.length : Int) = x := by rw [h]; exact rd_mid p t x
    have e3 : wrap64 ((p.length : Int) + 1) = ((p ++ [x]).length : Int) := nx_mid p t x (h ▸ hl)
    have e4 : (p.length : Int) < (m.length : Int) := by rw [h', e]; exact lt_mid q u y
    have e5 : rd m (p.length : Int) = y := by rw [h', e]; exact rd_mid q u y
    by_cases c : x = y
    · refine Ev.to (Ev.step (fun k => ?_) (laws_eqIntS_l0 l m hl t (p ++ [x]) u (q ++ [y]) (by simp [h]) (by simp [h']) (by simp [e]) (by simpa using e'))) (by simp [c])
      simp only [laws_eqIntS.l0, if_pos e1, if_pos (Int.natCast_nonneg _), if_pos e4, e2, e3, e5, if_pos c]
    · refine Ev.to (Ev.step (fun k => ?_) (Ev.now false)) (by simp [c])
      simp only [laws_eqIntS.l0, if_pos e1, if_pos (Int.natCast_nonneg _), if_pos e4, e2, e3, e5, if_neg c]
theorem laws_eqIntS_ev (l m : List Int) (hl : l.length ≤ 140737488351232) : Ev (fun k => laws_eqIntS.f k l m) (l == m) := by
  simp only [laws_eqIntS.f]
  by_cases c : (l.length : Int) = (m.length : Int)
  · exact Ev.tt c (laws_eqIntS_l0 l m hl l [] m [] rfl rfl rfl (by omega))
  · refine Ev.ff c (Ev.to (Ev.now false) ?_)
    have : l ≠ m := fun h => c (by rw [h])
    simp [this]
theorem laws_eqIntS_self (l : List Int) (hl : l.length ≤ 140737488351232) : Ev (fun k => laws_eqIntS.f k l l) true := Ev.to (laws_eqIntS_ev l l hl) (by simp)

theorem FnExactTonePower : laws_FnExactTonePower.Pure := by
  intro l0 a1 hm0 he0 hx0 ha1
  apply Ev.rounds
  simp only [laws_FnExactTonePower.f]
  by_cases c0 : (l0.length : Int) > 1048576
  · exact Ev.tt c0 (Ev.now _)
  refine Ev.ff c0 ?_
  have hl0 : l0.length ≤ 1048576 := by omega
  obtain ⟨r, hs, hi, hb⟩ := TonePower_agree l0 a1 hl0
  obtain ⟨r0, r1⟩ := r
  try simp only at hb
  repeat ((try dsimp only); first | exact Ev.now _ | refine Ev.bind (laws_toIntS_ev l0 (by omega)) ?_ | refine Ev.bind hs ?_ | refine Ev.bind hi ?_ | refine Ev.bind (laws_eqIntS_self _ (by omega)) ?_ | refine Ev.tt rfl ?_ | refine Ev.ff (by first | omega | decide) ?_ | (refine Ev.step (fun k => by simp only [laws_FnExactTonePower.j0, bne_self_eq_false]; rfl) ?_))

end Go.Proofs.Ythbpdbkokplgcaa.Pure
