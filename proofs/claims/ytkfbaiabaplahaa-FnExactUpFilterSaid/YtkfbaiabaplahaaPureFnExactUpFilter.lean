/- The program's UpFilter returns what the reference's returns, for all arguments. Conditions: none beyond those that the statement itself prints. -/
import Derived.Test.YtkfbaiabaplahaaPFnExactUpFilterx5
namespace Go.Proofs.Ytkfbaiabaplahaa.Pure
open Go.RowKit Go.Proofs.Ytkfbaiabaplahaa.PFnExactUpFilter Go.Proofs.YtkfbaiabaplahaaW.PrintWords Go.Proofs.YtkfbaiabaplahaaW.PrintLast Go.Proofs.YtkfbaiabaplahaaW.PrintMore
set_option linter.unusedVariables false
set_option linter.unusedSimpArgs false

theorem w64 {n : Int} (h1 : -9223372036854775808 ≤ n) (h2 : n ≤ 9223372036854775807) : wrap64 n = n := by
  unfold wrap64
  omega
theorem Ev.to {α : Type} {g : Nat → Option α} {r r' : α} (h : Ev g r) (e : r = r') : Ev g r' := e ▸ h
theorem Ev.const {α : Type} {g : Option α} {r : α} (h : g = some r) : Ev (fun _ => g) r := ⟨0, fun _ _ => h⟩
theorem Ev.dbind {α β : Type} {g : Option α} {f : Nat → α → Option β} {a : α} {r : β} (h : g = some a) (k : Ev (fun n => f n a) r) : Ev (fun n => g.bind (f n)) r :=
  Ev.bind (g := fun _ => g) (Ev.const h) k
theorem Ev.tt {α : Type} {c : Prop} {_ : Decidable c} {g f : Nat → Option α} {r : α} (h : c) (k : Ev g r) : Ev (fun n => if c then g n else f n) r := by
  simpa only [if_pos h] using k
theorem Ev.ff {α : Type} {c : Prop} {_ : Decidable c} {g f : Nat → Option α} {r : α} (h : ¬ c) (k : Ev f r) : Ev (fun n => if c then g n else f n) r := by
  simpa only [if_neg h] using k
theorem rd_mid (p t : List Int) (x : Int) : rd (p ++ x :: t) (p.length : Int) = x := by
  simp [rd]
theorem lt_mid {α : Type} (p t : List α) (x : α) : (p.length : Int) < ((p ++ x :: t).length : Int) := by
  simp
  omega
theorem nx_mid {α : Type} (p t : List α) (x : α) (h : (p ++ x :: t).length ≤ 140737488351232) : wrap64 ((p.length : Int) + 1) = ((p ++ [x]).length : Int) := by
  simp at h ⊢
  exact w64 (by omega) (by omega)
theorem ap_mid {α : Type} (p t : List α) (x : α) : p ++ x :: t = (p ++ [x]) ++ t := by simp
theorem w64_nat (a b : Nat) (h : a + b ≤ 1000000000) : wrap64 ((a : Int) + (b : Int)) = ((a + b : Nat) : Int) := by
  rw [w64 (n := (a : Int) + (b : Int)) (by omega) (by omega)]
  omega
theorem w64_suc {α : Type} (q : List α) (x : α) (h : q.length ≤ 1000000000) : wrap64 ((q.length : Int) + 1) = ((q ++ [x]).length : Int) := by
  rw [w64 (n := (q.length : Int) + 1) (by omega) (by omega)]
  simp
theorem ar1 {a b c d : Nat} (h1 : a + 1 ≤ c) (h2 : b + 1 ≤ d) : ((a + b : Nat) : Int) < ((c + d - 1 : Nat) : Int) := by omega
theorem ar2 {a b c d : Nat} (h1 : a + 1 ≤ c) (h2 : b + 1 ≤ d) : a + b < c + d - 1 := by omega
theorem ar3 (a b : Nat) : ¬ (a ≤ a + b ∧ a + b - a < b) := by omega
theorem ar4 {v M : Int} (h : -M ≤ v ∧ v ≤ M) (hm : M ≤ 4000000000000000000) : wrap64 v = v := w64 (by omega) (by omega)
theorem ar5 {c v P M H : Int} (hc : -P ≤ c ∧ c ≤ P) (hv : -M ≤ v ∧ v ≤ M) (hp : P + M ≤ H) (hH : H ≤ 4000000000000000000) : wrap64 (c + v) = c + v := w64 (by omega) (by omega)
theorem ar6 {a b : Nat} {M : Int} (h : a + 1 ≤ b) (hM : 0 ≤ M) : (a : Int) * M + M ≤ (b : Int) * M := by
  have h1 : ((a : Int) + 1) * M ≤ (b : Int) * M := Int.mul_le_mul_of_nonneg_right (by omega) hM
  rw [Int.add_mul, Int.one_mul] at h1
  exact h1
theorem ar7 {a b c d : Nat} (h1 : a + 1 ≤ c) (h2 : b + 1 ≤ d) (h : c + d ≤ 100000000) : a + b ≤ 1000000000 := by omega
theorem ar8 {a c d : Nat} (h1 : a + 1 ≤ c) (h : c + d ≤ 100000000) : a ≤ 1000000000 := by omega

def backOf (n : Int) : Int × Bool := if n = 3 then (-1, true) else if n = 4 then (0, true) else if n = 6 then (1, true) else (0, false)
def tnF (c : Int) : List Int → Int → Int → Int × Int
  | [], y, z => (y, z)
  | x :: t, y, z => tnF c t (wrap64 ((wrap64 (x + (wrap64 (c * y)))) - z)) y
def sig (l : List Int) : Bool := decide (l.length ≤ 64) && l.all fun x => decide (-100000 ≤ x) && decide (x ≤ 100000)
def toneStates (l : List Int) (n : Int) : Int × Int × Bool := if (backOf n).2 = true then (if sig l = true then ((tnF (backOf n).1 l 0 0).1, (tnF (backOf n).1 l 0 0).2, true) else (0, 0, false)) else (0, 0, false)
theorem sig_len {l : List Int} (h : sig l = true) : l.length ≤ 64 := by
  simp [sig] at h
  exact h.1
theorem sig_mem {l : List Int} (h : sig l = true) : ∀ x ∈ l, -100000 ≤ x ∧ x ≤ 100000 := by
  simp [sig] at h
  exact h.2
def isBits (l : List Int) : Bool := decide (l.length ≤ 200) && l.all fun x => decide (x = 1 ∨ x = -1)
theorem isBits_len {l : List Int} (h : isBits l = true) : l.length ≤ 200 := by
  simp [isBits] at h
  exact h.1
theorem isBits_mem {l : List Int} (h : isBits l = true) : ∀ x ∈ l, x = 1 ∨ x = -1 := by
  simp [isBits] at h
  exact h.2
def toldM (l : List Int) : List Int × Bool := if sig l = true then (l, true) else ([], false)
theorem toldM_len (l : List Int) : (toldM l).1.length ≤ 64 := by
  unfold toldM
  split
  · exact sig_len ‹_›
  · simp
def bitM (x v : Int) : Int := if x ≥ v then 1 else -1
theorem bitM_cases (x v : Int) : bitM x v = 1 ∨ bitM x v = -1 := by
  unfold bitM
  split <;> simp
def tkS (st last : Int) (fixed : Bool) (bit : Int) : Int :=
  if fixed = true then st else if last = 0 then st else if bit = last then (if 2 * st ≤ 4096 then 2 * st else 4096) else (if 1 ≤ st / 2 then st / 2 else 1)
theorem tkS_bd {st last : Int} {fixed : Bool} {bit : Int} (h0 : 1 ≤ st) (h1 : st ≤ 4096) : 1 ≤ tkS st last fixed bit ∧ tkS st last fixed bit ≤ 4096 := by
  unfold tkS
  repeat' split
  all_goals omega
theorem mul_bit {st bit : Int} (hb : bit = 1 ∨ bit = -1) : st * bit = st ∨ st * bit = -st := by
  rcases hb with rfl | rfl
  · left; omega
  · right; omega
/-- bit, value and step behind each sample -/
def codeM (fixed : Bool) : List Int → Int → Int → Int → List (Int × Int × Int)
  | [], _, _, _ => []
  | x :: t, v, st, last =>
    let b := bitM x v
    let s := tkS st last fixed b
    (b, v + s * b, s) :: codeM fixed t (v + s * b) s b
theorem codeM_length (fixed : Bool) : ∀ (l : List Int) (v st last : Int), (codeM fixed l v st last).length = l.length
  | [], _, _, _ => rfl
  | x :: t, v, st, last => by simp [codeM, codeM_length fixed t]
def fixM (st : Int) : List Int → Int → List Int
  | [], _ => []
  | x :: t, v => bitM x v :: fixM st t (v + bitM x v * st)
theorem fixM_length (st : Int) : ∀ (l : List Int) (v : Int), (fixM st l v).length = l.length
  | [], _ => rfl
  | x :: t, v => by simp [fixM, fixM_length st t]
def fixedBits (l : List Int) (st : Int) : List Int × Bool := if sig l = true ∧ 1 ≤ st ∧ st ≤ 4096 then (fixM st l 0, true) else ([], false)
def decM (fixed : Bool) : List Int → Int → Int → Int → List (Int × Int)
  | [], _, _, _ => []
  | b :: t, v, st, last => (v + tkS st last fixed b * b, tkS st last fixed b) :: decM fixed t (v + tkS st last fixed b * b) (tkS st last fixed b) b
theorem decM_length (fixed : Bool) : ∀ (l : List Int) (v st last : Int), (decM fixed l v st last).length = l.length
  | [], _, _, _ => rfl
  | x :: t, v, st, last => by simp [decM, decM_length fixed t]
def gapM : List Int → List Int → List Int
  | x :: t, y :: u => (x - y) :: gapM t u
  | _, _ => []
theorem gapM_length : ∀ (l m : List Int), l.length = m.length → (gapM l m).length = l.length
  | [], m, _ => by cases m <;> simp [gapM]
  | x :: t, [], h => by simp at h
  | x :: t, y :: u, h => by
    simp at h
    simp [gapM, gapM_length t u h]
theorem codeM_val (fixed : Bool) : ∀ (l : List Int) (v st last : Int) (n : Int), 1 ≤ st → st ≤ 4096 → -4096 * n ≤ v → v ≤ 4096 * n → ∀ y ∈ (codeM fixed l v st last).map (·.2.1), -4096 * (n + l.length) ≤ y ∧ y ≤ 4096 * (n + l.length)
  | [], _, _, _, _, _, _, _, _, y, hy => by simp [codeM] at hy
  | x :: t, v, st, last, n, h0, h1, hv0, hv1, y, hy => by
    have hb := bitM_cases x v
    have hk := tkS_bd (last := last) (fixed := fixed) (bit := bitM x v) h0 h1
    have hm := mul_bit (st := tkS st last fixed (bitM x v)) hb
    simp only [codeM, List.map_cons, List.mem_cons] at hy
    rcases hy with rfl | hy
    · simp; omega
    · have := codeM_val fixed t _ _ _ (n + 1) hk.1 hk.2 (by omega) (by omega) y hy
      simp; omega
def stepOk (st : Int) : Bool := decide (1 ≤ st) && decide (st ≤ 4096)
theorem stepOk_iff {st : Int} : stepOk st = true ↔ 1 ≤ st ∧ st ≤ 4096 := by simp [stepOk]
def stepBits (l : List Int) (st : Int) : List Int × Bool := if sig l = true then (if stepOk st = true then ((codeM false l 0 st 0).map (·.1), true) else ([], false)) else ([], false)
def stepValues (l : List Int) (st : Int) : List Int × Bool := if isBits l = true then (if stepOk st = true then toldM ((decM false l 0 st 0).map (·.1)) else ([], false)) else ([], false)
def stepsOfBits (l : List Int) (st : Int) : List Int × Bool := if isBits l = true then (if stepOk st = true then toldM ((decM false l 0 st 0).map (·.2)) else ([], false)) else ([], false)
def fixedValues (l : List Int) (st : Int) : List Int × Bool := if isBits l = true then (if stepOk st = true then toldM ((decM true l 0 st 0).map (·.1)) else ([], false)) else ([], false)
def stepGaps (l : List Int) (st : Int) : List Int × Bool := if sig l = true then (if stepOk st = true then toldM (gapM l ((codeM false l 0 st 0).map (·.2.1))) else ([], false)) else ([], false)
def wts (l : List Int) : Bool := decide (1 ≤ l.length) && decide (l.length ≤ 9) && l.all fun x => decide (-1000 ≤ x) && decide (x ≤ 1000)
theorem wts_len {l : List Int} (h : wts l = true) : 1 ≤ l.length ∧ l.length ≤ 9 := by
  simp [wts] at h
  exact ⟨h.1.1, h.1.2⟩
theorem wts_mem {l : List Int} (h : wts l = true) : ∀ x ∈ l, -1000 ≤ x ∧ x ≤ 1000 := by
  simp [wts] at h
  exact h.2
def ratio (p q : Int) : Bool := (decide (1 ≤ p) && decide (p ≤ 8)) && (decide (1 ≤ q) && decide (q ≤ 8))
theorem ratio_iff {p q : Int} : ratio p q = true ↔ (1 ≤ p ∧ p ≤ 8) ∧ (1 ≤ q ∧ q ≤ 8) := by simp [ratio]
def rsOk (h l : List Int) (p q : Int) : Bool := wts h && ((sig l && ratio p q) && decide ((l.length : Int) * p ≤ 64))

def cv : List Int → List Int → Nat → Int
  | [], _, _ => 0
  | w :: _, s, 0 => w * s.getD 0 0
  | w :: h, s, n + 1 => w * s.getD (n + 1) 0 + cv h s n
def Lf (f : Nat → Int) (N : Nat) : List Int := (List.range N).map f
theorem Lf_length (f : Nat → Int) (N : Nat) : (Lf f N).length = N := by simp [Lf]
theorem rd_Lf (f : Nat → Int) (N i : Nat) (h : i < N) : rd (Lf f N) (i : Int) = f i := by
  simp [rd, Lf, h]
theorem set_Lf (f : Nat → Int) (N i : Nat) (v : Int) : (Lf f N).set i v = Lf (fun n => if n = i then v else f n) N := by
  apply List.ext_getElem
  · simp [Lf]
  · intro n h1 h2
    simp [Lf, List.getElem_set]
    by_cases c : i = n
    · simp [c]
    · rw [if_neg c, if_neg (fun h => c h.symm)]
theorem Lf_congr {f g : Nat → Int} {N : Nat} (h : ∀ n, n < N → f n = g n) : Lf f N = Lf g N := by
  apply List.ext_getElem
  · simp [Lf]
  · intro n h1 h2
    simp [Lf] at h1 ⊢
    exact h n h1
theorem cv_snoc (s : List Int) (w : Int) : ∀ (p : List Int) (n : Nat), cv (p ++ [w]) s n = cv p s n + (if p.length ≤ n then w * s.getD (n - p.length) 0 else 0)
  | [], 0 => by simp [cv]
  | [], n + 1 => by simp [cv]
  | a :: p, 0 => by simp [cv]
  | a :: p, n + 1 => by
    simp only [List.cons_append, cv, cv_snoc s w p n, List.length_cons, Nat.add_le_add_iff_right, Nat.add_sub_add_right]
    omega
theorem getD_bd {s : List Int} {a M : Int} (hM : 0 ≤ M) (h : ∀ x ∈ s, -M ≤ a * x ∧ a * x ≤ M) (n : Nat) : -M ≤ a * s.getD n 0 ∧ a * s.getD n 0 ≤ M := by
  rw [List.getD_eq_getElem?_getD]
  by_cases c : n < s.length
  · rw [List.getElem?_eq_getElem c]
    exact h _ (List.getElem_mem c)
  · rw [List.getElem?_eq_none (by omega)]
    simp
    omega
theorem cv_bd {s : List Int} {M : Int} (hM : 0 ≤ M) : ∀ (h : List Int) (n : Nat), (∀ a ∈ h, ∀ x ∈ s, -M ≤ a * x ∧ a * x ≤ M) → -(h.length * M) ≤ cv h s n ∧ cv h s n ≤ h.length * M
  | [], n, hb => by simp [cv]
  | a :: h, 0, hb => by
    have h1 := getD_bd hM (hb a (by simp)) 0
    have h2 : 0 ≤ (h.length : Int) * M := Int.mul_nonneg (by omega) hM
    simp only [cv, List.length_cons, Int.natCast_add, Int.add_mul]
    omega
  | a :: h, n + 1, hb => by
    have h1 := getD_bd hM (hb a (by simp)) (n + 1)
    have h2 := cv_bd hM h n (fun b hbm => hb b (by simp [hbm]))
    simp only [cv, List.length_cons, Int.natCast_add, Int.add_mul]
    omega
def conv (h s : List Int) : List Int := if s = [] then [] else Lf (cv h s) (h.length + s.length - 1)
theorem conv_length (h s : List Int) (hs : s ≠ []) : (conv h s).length = h.length + s.length - 1 := by
  rw [conv, if_neg hs, Lf_length]
/-- what stands in the list when the weights p are done, and of the weight w the samples q -/
def cvi (p q s : List Int) (w : Int) (n : Nat) : Int := cv p s n + (if p.length ≤ n ∧ n - p.length < q.length then w * s.getD (n - p.length) 0 else 0)
theorem cvi_nil (p s : List Int) (w : Int) : cvi p [] s w = cv p s := by
  funext n
  simp [cvi]
theorem cvi_all (p s : List Int) (w : Int) (n : Nat) : cvi p s s w n = cv (p ++ [w]) s n := by
  rw [cv_snoc, cvi]
  by_cases c : p.length ≤ n
  · by_cases d : n - p.length < s.length
    · rw [if_pos ⟨c, d⟩, if_pos c]
    · rw [if_neg (fun h => d h.2), if_pos c, List.getD_eq_getElem?_getD, List.getElem?_eq_none (by omega)]
      simp
  · rw [if_neg (fun h => c h.1), if_neg c]
theorem getD_mid (q t : List Int) (x : Int) : (q ++ x :: t).getD q.length 0 = x := by simp
theorem cvi_step (p q t : List Int) (w x : Int) (n : Nat) : (if n = p.length + q.length then cvi p q (q ++ x :: t) w n + w * x else cvi p q (q ++ x :: t) w n) = cvi p (q ++ [x]) (q ++ x :: t) w n := by
  unfold cvi
  by_cases c : n = p.length + q.length
  · subst c
    have e : p.length + q.length - p.length = q.length := by omega
    rw [if_pos rfl, e, getD_mid, if_neg (by omega), if_pos ⟨by omega, by simp⟩]
    omega
  · rw [if_neg c]
    by_cases d : p.length ≤ n ∧ n - p.length < q.length
    · rw [if_pos d, if_pos ⟨d.1, by simp; omega⟩]
    · rw [if_neg d, if_neg (fun h => d ⟨h.1, by have := h.2; simp at this; omega⟩)]
theorem Lf_succ (f : Nat → Int) (n : Nat) : Lf f (n + 1) = Lf f n ++ [f n] := by simp [Lf, List.range_succ]
def dropN (len rate first : Nat) : Nat := (len - first + rate - 1) / rate
theorem dropN_lt {len rate first j : Nat} (hr : 1 ≤ rate) : j < dropN len rate first ↔ first + j * rate < len := by
  unfold dropN
  rw [Nat.lt_iff_add_one_le, Nat.le_div_iff_mul_le (by omega), Nat.add_mul]
  omega
def dropM (l : List Int) (rate first : Nat) : List Int := Lf (fun j => l.getD (first + j * rate) 0) (dropN l.length rate first)
theorem dropM_length (l : List Int) (rate first : Nat) : (dropM l rate first).length = dropN l.length rate first := Lf_length _ _
theorem dropN_le {len rate first : Nat} (hr : 1 ≤ rate) : dropN len rate first ≤ len := by
  apply Nat.le_of_not_lt
  intro h
  have := (dropN_lt hr).1 h
  have h2 : len * 1 ≤ len * rate := Nat.mul_le_mul_left len hr
  omega
def stuffM (p : Nat) : List Int → List Int
  | [] => []
  | x :: t => (x :: List.replicate (p - 1) 0) ++ stuffM p t
theorem stuffM_length (p : Nat) (hp : 1 ≤ p) : ∀ l : List Int, (stuffM p l).length = l.length * p
  | [] => by simp [stuffM]
  | x :: t => by
    simp only [stuffM, List.length_append, List.length_cons, List.length_replicate, stuffM_length p hp t, Nat.add_mul]
    omega
theorem stuffM_snoc (p : Nat) (x : Int) : ∀ l : List Int, stuffM p (l ++ [x]) = stuffM p l ++ (x :: List.replicate (p - 1) 0)
  | [] => by simp [stuffM]
  | y :: t => by simp [stuffM, stuffM_snoc p x t]
theorem rd_getD (l : List Int) (i : Nat) : rd l (i : Int) = l.getD i 0 := by simp [rd]
theorem stuffM_sig (p : Nat) : ∀ l : List Int, (∀ x ∈ l, -100000 ≤ x ∧ x ≤ 100000) → ∀ x ∈ stuffM p l, -100000 ≤ x ∧ x ≤ 100000
  | [], _, x, h => by simp [stuffM] at h
  | y :: t, hl, x, h => by
    simp only [stuffM, List.mem_append, List.mem_cons, List.mem_replicate] at h
    rcases h with (rfl | ⟨_, rfl⟩) | h
    · exact hl _ (by simp)
    · omega
    · exact stuffM_sig p t (fun z hz => hl z (by simp [hz])) x h
theorem sig_iff {l : List Int} : sig l = true ↔ l.length ≤ 64 ∧ ∀ x ∈ l, -100000 ≤ x ∧ x ≤ 100000 := by simp [sig]

theorem spec_l1In_eq (a b c : Int) : spec_l1In.f a b c = some (decide (b ≤ a) && decide (a ≤ c)) := by
  unfold spec_l1In.f
  by_cases h : b ≤ a <;> simp [h]

theorem impl_in_eq (a b c : Int) : impl_in.f a b c = some (decide (b ≤ a) && decide (a ≤ c)) := by
  unfold impl_in.f
  by_cases h : b ≤ a <;> simp [h]

theorem spec_l1All_l0 (lo hi : Int) (l : List Int) (hl : l.length ≤ 140737488351232) : ∀ (t p : List Int), l = p ++ t → Ev (fun k => spec_l1All.l0 k lo hi l (l.length : Int) (p.length : Int)) (t.all fun x => decide (lo ≤ x) && decide (x ≤ hi))
  | [], p, h => by
    apply Ev.step (f := fun _ => some _)
    · intro k
      subst h
      simp [spec_l1All.l0]; rfl
    · exact Ev.now _
  | x :: t, p, h => by
    have e1 : (p.length : Int) < (l.length : Int) := by rw [h]; exact lt_mid p t x
    have e2 : rd l (p.length : Int) = x := by rw [h]; exact rd_mid p t x
    have e3 : wrap64 ((p.length : Int) + 1) = ((p ++ [x]).length : Int) := nx_mid p t x (h ▸ hl)
    by_cases c : (decide (lo ≤ x) && decide (x ≤ hi)) = true
    · refine Ev.to (Ev.step (fun k => ?_) (spec_l1All_l0 lo hi l hl t (p ++ [x]) (by simp [h]))) (by rw [List.all_cons, c, Bool.true_and])
      simp only [spec_l1All.l0, if_pos e1, if_pos (Int.natCast_nonneg _), e2, e3, spec_l1In_eq, Option.bind_some, if_pos c]
    · refine Ev.to (Ev.step (fun k => ?_) (Ev.now false)) (by rw [List.all_cons, Bool.eq_false_iff.mpr c, Bool.false_and])
      simp only [spec_l1All.l0, if_pos e1, if_pos (Int.natCast_nonneg _), e2, e3, spec_l1In_eq, Option.bind_some, if_neg c]
theorem spec_l1All_ev (l : List Int) (lo hi : Int) (hl : l.length ≤ 140737488351232) : Ev (fun k => spec_l1All.f k l lo hi) (l.all fun x => decide (lo ≤ x) && decide (x ≤ hi)) := by
  simpa [spec_l1All.f] using spec_l1All_l0 lo hi l hl l [] rfl

theorem spec_wdSignal_ev (l : List Int) (hl : l.length ≤ 140737488351232) : Ev (fun k => spec_wdSignal.f k l) (sig l) := by
  simp only [spec_wdSignal.f]
  by_cases c : (l.length : Int) ≤ 64
  · refine Ev.tt c (Ev.bind (spec_l1All_ev l (-100000) 100000 hl) (Ev.to (Ev.now _) ?_))
    simp [sig]; omega
  · refine Ev.ff c (Ev.to (Ev.now _) ?_)
    simp [sig]; omega

theorem impl_isSignal_c1_eq (x : Int) : impl_isSignal_c1.f x = some (!(decide (-100000 ≤ x) && decide (x ≤ 100000))) := by
  unfold impl_isSignal_c1.f
  rw [impl_in_eq]
  rfl
theorem indexSignal_l0 (l : List Int) (hl : l.length ≤ 140737488351232) : ∀ (t p : List Int), l = p ++ t → ∃ r, Ev (fun k => slices_IndexFunc_int_int_impl_isSignal_c1.l0 k l (l.length : Int) (p.length : Int)) r ∧ (decide (r ≥ 0) = !(t.all fun x => decide (-100000 ≤ x) && decide (x ≤ 100000)))
  | [], p, h => by
    refine ⟨-1, Ev.step (f := fun _ => some (-1)) ?_ (Ev.now _), by simp⟩
    intro k
    subst h
    simp [slices_IndexFunc_int_int_impl_isSignal_c1.l0]
  | x :: t, p, h => by
    have e1 : (p.length : Int) < (l.length : Int) := by rw [h]; exact lt_mid p t x
    have e2 : rd l (p.length : Int) = x := by rw [h]; exact rd_mid p t x
    have e3 : wrap64 ((p.length : Int) + 1) = ((p ++ [x]).length : Int) := nx_mid p t x (h ▸ hl)
    by_cases c : (decide (-100000 ≤ x) && decide (x ≤ 100000)) = true
    · obtain ⟨r, h1, h2⟩ := indexSignal_l0 l hl t (p ++ [x]) (by simp [h])
      refine ⟨r, Ev.step (fun k => ?_) h1, by rw [h2, List.all_cons, c, Bool.true_and]⟩
      simp only [slices_IndexFunc_int_int_impl_isSignal_c1.l0, if_pos e1, if_pos (Int.natCast_nonneg _), e2, e3, impl_isSignal_c1_eq, c, Option.bind_some, Bool.not_true]
      rfl
    · have c := Bool.eq_false_iff.mpr c
      refine ⟨(p.length : Int), Ev.step (fun k => ?_) (Ev.now _), by rw [List.all_cons, c]; simp⟩
      simp only [slices_IndexFunc_int_int_impl_isSignal_c1.l0, if_pos e1, if_pos (Int.natCast_nonneg _), e2, e3, impl_isSignal_c1_eq, c, Option.bind_some, Bool.not_false]
      rfl
theorem impl_isSignal_ev (l : List Int) (hl : l.length ≤ 140737488351232) : Ev (fun k => impl_isSignal.f k l) (sig l) := by
  simp only [impl_isSignal.f]
  by_cases c : (l.length : Int) ≤ 64
  · obtain ⟨r, h1, h2⟩ := indexSignal_l0 l hl l [] rfl
    refine Ev.tt c (Ev.bind (a := decide (r ≥ 0)) ?_ (Ev.to (Ev.now _) ?_))
    · simp only [slices_ContainsFunc_int_int_impl_isSignal_c1.f, slices_IndexFunc_int_int_impl_isSignal_c1.f]
      exact Ev.bind h1 (Ev.now _)
    · rw [h2]; simp [sig]; omega
  · refine Ev.ff c (Ev.to (Ev.now _) ?_)
    simp [sig]; omega

theorem spec_wdIf_ev (l : List Int) (hl : l.length ≤ 140737488351232) : Ev (fun k => spec_wdIf.f k l) (toldM l) := by
  simp only [spec_wdIf.f, toldM]
  refine Ev.bind (spec_wdSignal_ev l hl) ?_
  by_cases c : sig l = true
  · exact Ev.tt c (Ev.to (Ev.now _) (by rw [if_pos c]))
  · exact Ev.ff c (Ev.to (Ev.now _) (by rw [if_neg c]))

theorem impl_told_ev (l : List Int) (hl : l.length ≤ 140737488351232) : Ev (fun k => impl_told.f k l) (toldM l) := by
  simp only [impl_told.f, toldM]
  refine Ev.bind (impl_isSignal_ev l hl) ?_
  by_cases c : sig l = true
  · exact Ev.tt c (Ev.to (Ev.now _) (by rw [if_pos c]))
  · exact Ev.ff c (Ev.to (Ev.now _) (by rw [if_neg c]))

theorem spec_weGood_ev (l : List Int) (hl : l.length ≤ 140737488351232) : Ev (fun k => spec_weGood.f k l) (wts l) := by
  simp only [spec_weGood.f]
  refine Ev.dbind (spec_l1In_eq _ 1 9) ?_
  by_cases c : (decide (1 ≤ (l.length : Int)) && decide ((l.length : Int) ≤ 9)) = true
  · refine Ev.tt c (Ev.bind (spec_l1All_ev l (-1000) 1000 hl) (Ev.to (Ev.now _) ?_))
    simp at c
    simp [wts]; omega
  · refine Ev.ff c (Ev.to (Ev.now _) ?_)
    simp at c
    simp [wts]; omega

theorem impl_isWeights_c1_eq (x : Int) : impl_isWeights_c1.f x = some (!(decide (-1000 ≤ x) && decide (x ≤ 1000))) := by
  unfold impl_isWeights_c1.f
  rw [impl_in_eq]
  rfl
theorem indexWeights_l0 (l : List Int) (hl : l.length ≤ 140737488351232) : ∀ (t p : List Int), l = p ++ t → ∃ r, Ev (fun k => slices_IndexFunc_int_int_impl_isWeights_c1.l0 k l (l.length : Int) (p.length : Int)) r ∧ (decide (r ≥ 0) = !(t.all fun x => decide (-1000 ≤ x) && decide (x ≤ 1000)))
  | [], p, h => by
    refine ⟨-1, Ev.step (f := fun _ => some (-1)) ?_ (Ev.now _), by simp⟩
    intro k
    subst h
    simp [slices_IndexFunc_int_int_impl_isWeights_c1.l0]
  | x :: t, p, h => by
    have e1 : (p.length : Int) < (l.length : Int) := by rw [h]; exact lt_mid p t x
    have e2 : rd l (p.length : Int) = x := by rw [h]; exact rd_mid p t x
    have e3 : wrap64 ((p.length : Int) + 1) = ((p ++ [x]).length : Int) := nx_mid p t x (h ▸ hl)
    by_cases c : (decide (-1000 ≤ x) && decide (x ≤ 1000)) = true
    · obtain ⟨r, h1, h2⟩ := indexWeights_l0 l hl t (p ++ [x]) (by simp [h])
      refine ⟨r, Ev.step (fun k => ?_) h1, by rw [h2, List.all_cons, c, Bool.true_and]⟩
      simp only [slices_IndexFunc_int_int_impl_isWeights_c1.l0, if_pos e1, if_pos (Int.natCast_nonneg _), e2, e3, impl_isWeights_c1_eq, c, Option.bind_some, Bool.not_true]
      rfl
    · have c := Bool.eq_false_iff.mpr c
      refine ⟨(p.length : Int), Ev.step (fun k => ?_) (Ev.now _), by rw [List.all_cons, c]; simp⟩
      simp only [slices_IndexFunc_int_int_impl_isWeights_c1.l0, if_pos e1, if_pos (Int.natCast_nonneg _), e2, e3, impl_isWeights_c1_eq, c, Option.bind_some, Bool.not_false]
      rfl
theorem impl_isWeights_ev (l : List Int) (hl : l.length ≤ 140737488351232) : Ev (fun k => impl_isWeights.f k l) (wts l) := by
  simp only [impl_isWeights.f]
  refine Ev.dbind (impl_in_eq _ 1 9) ?_
  by_cases c : (decide (1 ≤ (l.length : Int)) && decide ((l.length : Int) ≤ 9)) = true
  · obtain ⟨r, h1, h2⟩ := indexWeights_l0 l hl l [] rfl
    refine Ev.tt c (Ev.bind (a := decide (r ≥ 0)) ?_ (Ev.to (Ev.now _) ?_))
    · simp only [slices_ContainsFunc_int_int_impl_isWeights_c1.f, slices_IndexFunc_int_int_impl_isWeights_c1.f]
      exact Ev.bind h1 (Ev.now _)
    · rw [h2]
      simp at c
      simp [wts]; omega
  · refine Ev.ff c (Ev.to (Ev.now _) ?_)
    simp at c
    simp [wts]; omega

theorem spec_rsRatio_eq (p q : Int) : spec_rsRatio.f p q = some (ratio p q) := by
  unfold spec_rsRatio.f ratio
  rw [spec_l1In_eq]
  simp only [Option.bind_some, spec_l1In_eq]
  by_cases c : (decide (1 ≤ p) && decide (p ≤ 8)) = true
  · rw [if_pos c, c, Bool.true_and]
  · rw [if_neg c, Bool.eq_false_iff.mpr c, Bool.false_and]

theorem impl_isRatio_eq (p q : Int) : impl_isRatio.f p q = some (ratio p q) := by
  unfold impl_isRatio.f ratio
  rw [impl_in_eq]
  simp only [Option.bind_some, impl_in_eq]
  by_cases c : (decide (1 ≤ p) && decide (p ≤ 8)) = true
  · rw [if_pos c, c, Bool.true_and]
  · rw [if_neg c, Bool.eq_false_iff.mpr c, Bool.false_and]

theorem spec_rsGood_ev (l : List Int) (p q : Int) (hl : l.length ≤ 140737488351232) : Ev (fun k => spec_rsGood.f k l p q) (sig l && ratio p q) := by
  simp only [spec_rsGood.f]
  refine Ev.bind (spec_wdSignal_ev l hl) ?_
  by_cases c : sig l = true
  · rw [c, Bool.true_and]
    refine Ev.tt rfl (Ev.dbind (spec_rsRatio_eq p q) (Ev.now _))
  · rw [Bool.eq_false_iff.mpr c, Bool.false_and]
    exact Ev.ff (by decide) (Ev.now _)

theorem spec_rsAsked_ev (h l : List Int) (p q : Int) (hh : h.length ≤ 140737488351232) (hl : l.length ≤ 140737488351232) : Ev (fun k => spec_rsAsked.f k h l p q) (rsOk h l p q) := by
  simp only [spec_rsAsked.f, rsOk]
  refine Ev.bind (spec_weGood_ev h hh) ?_
  by_cases c : wts h = true
  · rw [c, Bool.true_and]
    refine Ev.tt rfl (Ev.bind (spec_rsGood_ev l p q hl) ?_)
    by_cases d : (sig l && ratio p q) = true
    · have d' := d
      simp only [Bool.and_eq_true] at d
      have hs := sig_len d.1
      have hr := ratio_iff.1 d.2
      have e : wrap64 ((l.length : Int) * p) = (l.length : Int) * p := by
        have h1 : (l.length : Int) * p ≤ 64 * 8 := Int.mul_le_mul (by omega) (by omega) (by omega) (by omega)
        have h0 : 0 ≤ (l.length : Int) * p := Int.mul_nonneg (by omega) (by omega)
        exact w64 (by omega) (by omega)
      rw [d', Bool.true_and]
      exact Ev.tt rfl (Ev.to (Ev.now _) (by rw [e]))
    · rw [Bool.eq_false_iff.mpr d, Bool.false_and]
      exact Ev.ff (by decide) (Ev.now _)
  · rw [Bool.eq_false_iff.mpr c, Bool.false_and]
    exact Ev.ff (by decide) (Ev.now _)

theorem spec_weAnswer_l1 (h s : List Int) (M : Int) (hM : 0 ≤ M) (hM1 : (h.length : Int) * M ≤ 4000000000000000000) (hMM : M ≤ 4000000000000000000) (hb : ∀ a ∈ h, ∀ x ∈ s, -M ≤ a * x ∧ a * x ≤ M) (hN : h.length + s.length ≤ 100000000) (hs : s ≠ [])
    (p : List Int) (w : Int) (u : List Int) (hp : h = p ++ w :: u) (r : List Int) : ∀ (t q : List Int), s = q ++ t →
    Ev (fun k => spec_weAnswer.l0 k s (Lf (cv (p ++ [w]) s) (h.length + s.length - 1)) h (h.length : Int) (wrap64 ((p.length : Int) + 1))) r →
    Ev (fun k => spec_weAnswer.l1 k s (Lf (cvi p q s w) (h.length + s.length - 1)) (p.length : Int) w h (h.length : Int) (p.length : Int) s (s.length : Int) (q.length : Int)) r
  | [], q, hq, hr => by
    have e : q = s := by rw [hq]; simp
    subst e
    refine Ev.step (fun k => ?_) hr
    have e : Lf (cvi p q q w) (h.length + q.length - 1) = Lf (cv (p ++ [w]) q) (h.length + q.length - 1) := Lf_congr (fun n _ => cvi_all p q w n)
    rw [e]
    simp [spec_weAnswer.l1]
  | x :: t, q, hq, hr => by
    have hps : p.length + 1 ≤ h.length := by rw [hp]; simp
    have hqs : q.length + 1 ≤ s.length := by rw [hq]; simp
    have e1 : (q.length : Int) < (s.length : Int) := Int.ofNat_lt.2 hqs
    have e2 : rd s (q.length : Int) = x := by rw [hq]; exact rd_mid q t x
    have e3 : wrap64 ((q.length : Int) + 1) = ((q ++ [x]).length : Int) := w64_suc q x (ar8 (d := h.length) hqs (by rw [Nat.add_comm]; exact hN))
    have e4 : wrap64 ((p.length : Int) + (q.length : Int)) = ((p.length + q.length : Nat) : Int) := w64_nat _ _ (ar7 hps hqs hN)
    have e5 : ((p.length + q.length : Nat) : Int) < ((Lf (cvi p q s w) (h.length + s.length - 1)).length : Int) := by rw [Lf_length]; exact ar1 hps hqs
    have e6 : rd (Lf (cvi p q s w) (h.length + s.length - 1)) ((p.length + q.length : Nat) : Int) = cvi p q s w (p.length + q.length) := rd_Lf _ _ _ (ar2 hps hqs)
    have hwx := hb w (by rw [hp]; simp) x (by rw [hq]; simp)
    have e7 : wrap64 (w * x) = w * x := ar4 hwx hMM
    have e8 : cvi p q s w (p.length + q.length) = cv p s (p.length + q.length) := by
      unfold cvi
      rw [if_neg (ar3 _ _), Int.add_zero]
    have hcv := cv_bd hM p (p.length + q.length) (fun a ha => hb a (by rw [hp]; simp [ha]))
    have hpm := ar6 hps hM
    have e9 : wrap64 (cvi p q s w (p.length + q.length) + w * x) = cvi p q s w (p.length + q.length) + w * x := by
      rw [e8]
      exact ar5 hcv hwx hpm hM1
    have e10 : (Lf (cvi p q s w) (h.length + s.length - 1)).set (((p.length + q.length : Nat) : Int).toNat) (cvi p q s w (p.length + q.length) + w * x) = Lf (cvi p (q ++ [x]) s w) (h.length + s.length - 1) := by
      rw [Int.toNat_natCast, set_Lf]
      apply Lf_congr
      intro n _
      have := cvi_step p q t w x n
      rw [← hq] at this
      rw [← this]
      by_cases c : n = p.length + q.length
      · rw [if_pos c, if_pos c, c]
      · rw [if_neg c, if_neg c]
    refine Ev.step (fun k => ?_) (spec_weAnswer_l1 h s M hM hM1 hMM hb hN hs p w u hp r t (q ++ [x]) (by simp [hq]) hr)
    simp only [spec_weAnswer.l1, if_pos e1, if_pos (Int.natCast_nonneg _), e2, e3, e4, if_pos e5, e6, e7, e9, e10]
theorem spec_weAnswer_l0 (h s : List Int) (M : Int) (hM : 0 ≤ M) (hM1 : (h.length : Int) * M ≤ 4000000000000000000) (hMM : M ≤ 4000000000000000000) (hb : ∀ a ∈ h, ∀ x ∈ s, -M ≤ a * x ∧ a * x ≤ M) (hN : h.length + s.length ≤ 100000000) (hs : s ≠ []) :
    ∀ (u p : List Int), h = p ++ u → Ev (fun k => spec_weAnswer.l0 k s (Lf (cv p s) (h.length + s.length - 1)) h (h.length : Int) (p.length : Int)) (Lf (cv h s) (h.length + s.length - 1))
  | [], p, hp => by
    have e : p = h := by rw [hp]; simp
    subst e
    refine Ev.step (f := fun _ => some _) (fun k => ?_) (Ev.now _)
    simp [spec_weAnswer.l0]
  | w :: u, p, hp => by
    have hps : p.length + 1 ≤ h.length := by rw [hp]; simp
    have e1 : (p.length : Int) < (h.length : Int) := Int.ofNat_lt.2 hps
    have e2 : rd h (p.length : Int) = w := by rw [hp]; exact rd_mid p u w
    have e3 : wrap64 ((p.length : Int) + 1) = ((p ++ [w]).length : Int) := w64_suc p w (ar8 hps hN)
    have ih := spec_weAnswer_l0 h s M hM hM1 hMM hb hN hs u (p ++ [w]) (by simp [hp])
    rw [← e3] at ih
    have hh := spec_weAnswer_l1 h s M hM hM1 hMM hb hN hs p w u hp _ s [] rfl ih
    rw [cvi_nil] at hh
    refine Ev.step (fun k => ?_) hh
    simp only [spec_weAnswer.l0, if_pos e1, if_pos (Int.natCast_nonneg _), e2]
    rfl
theorem spec_weAnswer_ev (h s : List Int) (M : Int) (hM : 0 ≤ M) (hM1 : (h.length : Int) * M ≤ 4000000000000000000) (hMM : M ≤ 4000000000000000000) (hb : ∀ a ∈ h, ∀ x ∈ s, -M ≤ a * x ∧ a * x ≤ M) (hN : h.length + s.length ≤ 100000000) : Ev (fun k => spec_weAnswer.f k h s) (conv h s) := by
  simp only [spec_weAnswer.f, conv]
  by_cases c : s = []
  · subst c
    exact Ev.tt (by simp) (Ev.now _)
  · rw [if_neg c]
    have hs1 : 1 ≤ s.length := by
      cases s with
      | nil => exact absurd rfl c
      | cons a t => simp
    have e : wrap64 ((wrap64 ((h.length : Int) + (s.length : Int))) - 1) = ((h.length + s.length - 1 : Nat) : Int) := by
      rw [w64 (n := (h.length : Int) + (s.length : Int)) (by omega) (by omega), w64 (n := (h.length : Int) + (s.length : Int) - 1) (by omega) (by omega)]
      omega
    refine Ev.ff (by omega) ?_
    rw [e]
    refine Ev.tt (by omega) (Ev.tt (by omega) ?_)
    rw [Int.toNat_natCast]
    have e2 : List.replicate (h.length + s.length - 1) (0 : Int) = Lf (cv [] s) (h.length + s.length - 1) := by
      apply List.ext_getElem
      · simp [Lf]
      · intro n h1 h2
        simp [Lf, cv]
    rw [e2]
    exact spec_weAnswer_l0 h s M hM hM1 hMM hb hN c h [] rfl

theorem impl_answer_l1 (h s : List Int) (M : Int) (hM : 0 ≤ M) (hM1 : (h.length : Int) * M ≤ 4000000000000000000) (hMM : M ≤ 4000000000000000000) (hb : ∀ a ∈ h, ∀ x ∈ s, -M ≤ a * x ∧ a * x ≤ M) (hN : h.length + s.length ≤ 100000000) (hs : s ≠ [])
    (p : List Int) (w : Int) (u : List Int) (hp : h = p ++ w :: u) (r : List Int) : ∀ (t q : List Int), s = q ++ t →
    Ev (fun k => impl_answer.l0 k s (Lf (cv (p ++ [w]) s) (h.length + s.length - 1)) h (h.length : Int) (wrap64 ((p.length : Int) + 1))) r →
    Ev (fun k => impl_answer.l1 k s (Lf (cvi p q s w) (h.length + s.length - 1)) (p.length : Int) w h (h.length : Int) (p.length : Int) s (s.length : Int) (q.length : Int)) r
  | [], q, hq, hr => by
    have e : q = s := by rw [hq]; simp
    subst e
    refine Ev.step (fun k => ?_) hr
    have e : Lf (cvi p q q w) (h.length + q.length - 1) = Lf (cv (p ++ [w]) q) (h.length + q.length - 1) := Lf_congr (fun n _ => cvi_all p q w n)
    rw [e]
    simp [impl_answer.l1]
  | x :: t, q, hq, hr => by
    have hps : p.length + 1 ≤ h.length := by rw [hp]; simp
    have hqs : q.length + 1 ≤ s.length := by rw [hq]; simp
    have e1 : (q.length : Int) < (s.length : Int) := Int.ofNat_lt.2 hqs
    have e2 : rd s (q.length : Int) = x := by rw [hq]; exact rd_mid q t x
    have e3 : wrap64 ((q.length : Int) + 1) = ((q ++ [x]).length : Int) := w64_suc q x (ar8 (d := h.length) hqs (by rw [Nat.add_comm]; exact hN))
    have e4 : wrap64 ((q.length : Int) + (p.length : Int)) = ((p.length + q.length : Nat) : Int) := (w64_nat _ _ (ar7 hqs hps (by rw [Nat.add_comm]; exact hN))).trans (by rw [Nat.add_comm])
    have e5 : ((p.length + q.length : Nat) : Int) < ((Lf (cvi p q s w) (h.length + s.length - 1)).length : Int) := by rw [Lf_length]; exact ar1 hps hqs
    have e6 : rd (Lf (cvi p q s w) (h.length + s.length - 1)) ((p.length + q.length : Nat) : Int) = cvi p q s w (p.length + q.length) := rd_Lf _ _ _ (ar2 hps hqs)
    have hwx := hb w (by rw [hp]; simp) x (by rw [hq]; simp)
    have e7 : wrap64 (w * x) = w * x := ar4 hwx hMM
    have e8 : cvi p q s w (p.length + q.length) = cv p s (p.length + q.length) := by
      unfold cvi
      rw [if_neg (ar3 _ _), Int.add_zero]
    have hcv := cv_bd hM p (p.length + q.length) (fun a ha => hb a (by rw [hp]; simp [ha]))
    have hpm := ar6 hps hM
    have e9 : wrap64 (cvi p q s w (p.length + q.length) + w * x) = cvi p q s w (p.length + q.length) + w * x := by
      rw [e8]
      exact ar5 hcv hwx hpm hM1
    have e10 : (Lf (cvi p q s w) (h.length + s.length - 1)).set (((p.length + q.length : Nat) : Int).toNat) (cvi p q s w (p.length + q.length) + w * x) = Lf (cvi p (q ++ [x]) s w) (h.length + s.length - 1) := by
      rw [Int.toNat_natCast, set_Lf]
      apply Lf_congr
      intro n _
      have := cvi_step p q t w x n
      rw [← hq] at this
      rw [← this]
      by_cases c : n = p.length + q.length
      · rw [if_pos c, if_pos c, c]
      · rw [if_neg c, if_neg c]
    refine Ev.step (fun k => ?_) (impl_answer_l1 h s M hM hM1 hMM hb hN hs p w u hp r t (q ++ [x]) (by simp [hq]) hr)
    simp only [impl_answer.l1, if_pos e1, if_pos (Int.natCast_nonneg _), e2, e3, e4, if_pos e5, e6, e7, e9, e10]
theorem impl_answer_l0 (h s : List Int) (M : Int) (hM : 0 ≤ M) (hM1 : (h.length : Int) * M ≤ 4000000000000000000) (hMM : M ≤ 4000000000000000000) (hb : ∀ a ∈ h, ∀ x ∈ s, -M ≤ a * x ∧ a * x ≤ M) (hN : h.length + s.length ≤ 100000000) (hs : s ≠ []) :
    ∀ (u p : List Int), h = p ++ u → Ev (fun k => impl_answer.l0 k s (Lf (cv p s) (h.length + s.length - 1)) h (h.length : Int) (p.length : Int)) (Lf (cv h s) (h.length + s.length - 1))
  | [], p, hp => by
    have e : p = h := by rw [hp]; simp
    subst e
    refine Ev.step (f := fun _ => some _) (fun k => ?_) (Ev.now _)
    simp [impl_answer.l0]
  | w :: u, p, hp => by
    have hps : p.length + 1 ≤ h.length := by rw [hp]; simp
    have e1 : (p.length : Int) < (h.length : Int) := Int.ofNat_lt.2 hps
    have e2 : rd h (p.length : Int) = w := by rw [hp]; exact rd_mid p u w
    have e3 : wrap64 ((p.length : Int) + 1) = ((p ++ [w]).length : Int) := w64_suc p w (ar8 hps hN)
    have ih := impl_answer_l0 h s M hM hM1 hMM hb hN hs u (p ++ [w]) (by simp [hp])
    rw [← e3] at ih
    have hh := impl_answer_l1 h s M hM hM1 hMM hb hN hs p w u hp _ s [] rfl ih
    rw [cvi_nil] at hh
    refine Ev.step (fun k => ?_) hh
    simp only [impl_answer.l0, if_pos e1, if_pos (Int.natCast_nonneg _), e2]
    rfl
theorem impl_answer_ev (h s : List Int) (M : Int) (hM : 0 ≤ M) (hM1 : (h.length : Int) * M ≤ 4000000000000000000) (hMM : M ≤ 4000000000000000000) (hb : ∀ a ∈ h, ∀ x ∈ s, -M ≤ a * x ∧ a * x ≤ M) (hN : h.length + s.length ≤ 100000000) : Ev (fun k => impl_answer.f k h s) (conv h s) := by
  simp only [impl_answer.f, conv]
  by_cases c : s = []
  · subst c
    exact Ev.tt (by simp) (Ev.now _)
  · rw [if_neg c]
    have hs1 : 1 ≤ s.length := by
      cases s with
      | nil => exact absurd rfl c
      | cons a t => simp
    have e : wrap64 ((wrap64 ((h.length : Int) + (s.length : Int))) - 1) = ((h.length + s.length - 1 : Nat) : Int) := by
      rw [w64 (n := (h.length : Int) + (s.length : Int)) (by omega) (by omega), w64 (n := (h.length : Int) + (s.length : Int) - 1) (by omega) (by omega)]
      omega
    refine Ev.ff (by omega) ?_
    rw [e]
    refine Ev.tt (by omega) (Ev.tt (by omega) ?_)
    rw [Int.toNat_natCast]
    have e2 : List.replicate (h.length + s.length - 1) (0 : Int) = Lf (cv [] s) (h.length + s.length - 1) := by
      apply List.ext_getElem
      · simp [Lf]
      · intro n h1 h2
        simp [Lf, cv]
    rw [e2]
    exact impl_answer_l0 h s M hM hM1 hMM hb hN c h [] rfl

theorem spec_cbDrop_l0 (l : List Int) (rate first : Nat) (hr : 1 ≤ rate) (hr8 : rate ≤ 1000) (hl : l.length ≤ 100000000) : ∀ (d j : Nat), j + d = dropN l.length rate first → first + j * rate ≤ 1000000000 →
    Ev (fun k => spec_cbDrop.l0 k l (rate : Int) (Lf (fun j => l.getD (first + j * rate) 0) j) ((first + j * rate : Nat) : Int)) (dropM l rate first)
  | 0, j, hj, hb => by
    have hn : ¬ first + j * rate < l.length := fun h => by
      have := (dropN_lt (len := l.length) (first := first) hr).2 h
      omega
    have ej : j = dropN l.length rate first := hj
    refine Ev.to (Ev.step (f := fun _ => some _) (fun k => ?_) (Ev.now (Lf (fun j => l.getD (first + j * rate) 0) j))) (by rw [dropM, ← ej])
    simp only [spec_cbDrop.l0]
    rw [if_neg (fun h => hn (Int.ofNat_lt.1 h))]
  | d + 1, j, hj, hb => by
    have hlt : first + j * rate < l.length := (dropN_lt hr).1 (by omega)
    have e3 : wrap64 (((first + j * rate : Nat) : Int) + (rate : Int)) = ((first + (j + 1) * rate : Nat) : Int) := by
      rw [w64_nat _ _ (by omega), Nat.add_mul, Nat.one_mul, Nat.add_assoc]
    have hbd : first + (j + 1) * rate ≤ 1000000000 := by rw [Nat.add_mul]; omega
    refine Ev.step (fun k => ?_) (spec_cbDrop_l0 l rate first hr hr8 hl d (j + 1) (by omega) hbd)
    simp only [spec_cbDrop.l0]
    rw [if_pos (Int.ofNat_lt.2 hlt), if_pos (Int.natCast_nonneg _), Lf_length, if_pos (by have := dropN_le (len := l.length) (first := first) hr; omega), rd_getD, e3, Lf_succ]
theorem spec_cbDrop_ev (l : List Int) (rate first : Nat) (hr : 1 ≤ rate) (hr8 : rate ≤ 1000) (hl : l.length ≤ 100000000) (hf : first ≤ 1000000) : Ev (fun k => spec_cbDrop.f k l (rate : Int) (first : Int)) (dropM l rate first) := by
  have h := spec_cbDrop_l0 l rate first hr hr8 hl (dropN l.length rate first) 0 (by omega) (by omega)
  simpa [spec_cbDrop.f, Lf] using h

theorem impl_drop_l0 (l : List Int) (rate first : Nat) (hr : 1 ≤ rate) (hr8 : rate ≤ 1000) (hl : l.length ≤ 100000000) : ∀ (d j : Nat), j + d = dropN l.length rate first → first + j * rate ≤ 1000000000 →
    Ev (fun k => impl_drop.l0 k l (rate : Int) (Lf (fun j => l.getD (first + j * rate) 0) j) ((first + j * rate : Nat) : Int)) (dropM l rate first)
  | 0, j, hj, hb => by
    have hn : ¬ first + j * rate < l.length := fun h => by
      have := (dropN_lt (len := l.length) (first := first) hr).2 h
      omega
    have ej : j = dropN l.length rate first := hj
    refine Ev.to (Ev.step (f := fun _ => some _) (fun k => ?_) (Ev.now (Lf (fun j => l.getD (first + j * rate) 0) j))) (by rw [dropM, ← ej])
    simp only [impl_drop.l0]
    rw [if_neg (fun h => hn (Int.ofNat_lt.1 h))]
  | d + 1, j, hj, hb => by
    have hlt : first + j * rate < l.length := (dropN_lt hr).1 (by omega)
    have e3 : wrap64 (((first + j * rate : Nat) : Int) + (rate : Int)) = ((first + (j + 1) * rate : Nat) : Int) := by
      rw [w64_nat _ _ (by omega), Nat.add_mul, Nat.one_mul, Nat.add_assoc]
    have hbd : first + (j + 1) * rate ≤ 1000000000 := by rw [Nat.add_mul]; omega
    refine Ev.step (fun k => ?_) (impl_drop_l0 l rate first hr hr8 hl d (j + 1) (by omega) hbd)
    simp only [impl_drop.l0]
    rw [if_pos (Int.ofNat_lt.2 hlt), if_pos (Int.natCast_nonneg _), Lf_length, if_pos (by have := dropN_le (len := l.length) (first := first) hr; omega), rd_getD, e3, Lf_succ]
theorem impl_drop_ev (l : List Int) (rate first : Nat) (hr : 1 ≤ rate) (hr8 : rate ≤ 1000) (hl : l.length ≤ 100000000) (hf : first ≤ 1000000) : Ev (fun k => impl_drop.f k l (rate : Int) (first : Int)) (dropM l rate first) := by
  have h := impl_drop_l0 l rate first hr hr8 hl (dropN l.length rate first) 0 (by omega) (by omega)
  simpa [impl_drop.f, Lf] using h

theorem spec_cbStuff_l1 (l : List Int) (p : Nat) (hp : 1 ≤ p) (hp8 : p ≤ 1000) (O : List Int) (i : Int) (r : List Int) : ∀ (d j : Nat), j + d = p → 1 ≤ j → O.length + p ≤ 1000000000 →
    Ev (fun k => spec_cbStuff.l0 k (p : Int) (O ++ List.replicate (p - 1) 0) l (l.length : Int) (wrap64 (i + 1))) r → Ev (fun k => spec_cbStuff.l1 k (p : Int) (O ++ List.replicate (j - 1) 0) (j : Int) l (l.length : Int) i) r
  | 0, j, hj, h1, hO, hr => by
    have e : j = p := hj
    subst e
    refine Ev.step (fun k => ?_) hr
    simp [spec_cbStuff.l1]
  | d + 1, j, hj, h1, hO, hr => by
    have hlt : (j : Int) < (p : Int) := by omega
    have e3 : wrap64 ((j : Int) + 1) = ((j + 1 : Nat) : Int) := w64_nat j 1 (by omega)
    have e : List.replicate (j + 1 - 1) (0 : Int) = List.replicate (j - 1) 0 ++ [0] := by
      have : j + 1 - 1 = (j - 1) + 1 := by omega
      rw [this, List.replicate_succ']
    have ih := spec_cbStuff_l1 l p hp hp8 O i r d (j + 1) (by omega) (by omega) hO hr
    rw [e, ← List.append_assoc] at ih
    refine Ev.step (fun k => ?_) ih
    simp only [spec_cbStuff.l1]
    rw [if_pos hlt, if_pos (by simp; omega), e3]
theorem spec_cbStuff_l0 (l : List Int) (p : Nat) (hp : 1 ≤ p) (hp8 : p ≤ 1000) (hl : l.length ≤ 100000) : ∀ (t q : List Int), l = q ++ t → Ev (fun k => spec_cbStuff.l0 k (p : Int) (stuffM p q) l (l.length : Int) (q.length : Int)) (stuffM p l)
  | [], q, h => by
    have e : q = l := by rw [h]; simp
    subst e
    refine Ev.step (f := fun _ => some _) (fun k => ?_) (Ev.now _)
    simp [spec_cbStuff.l0]
  | x :: t, q, h => by
    have e1 : (q.length : Int) < (l.length : Int) := by rw [h]; exact lt_mid q t x
    have e2 : rd l (q.length : Int) = x := by rw [h]; exact rd_mid q t x
    have e3 : wrap64 ((q.length : Int) + 1) = ((q ++ [x]).length : Int) := w64_suc q x (by omega)
    have ih := spec_cbStuff_l0 l p hp hp8 hl t (q ++ [x]) (by simp [h])
    rw [stuffM_snoc, ← e3] at ih
    have hql : q.length ≤ 100000 := by have : q.length ≤ l.length := by rw [h]; simp
                                       omega
    have hqp : q.length * p ≤ 100000 * 1000 := Nat.mul_le_mul hql hp8
    have h1 := spec_cbStuff_l1 l p hp hp8 (stuffM p q ++ [x]) (q.length : Int) (stuffM p l) (p - 1) 1 (by omega) (by omega) (by rw [List.length_append, stuffM_length p hp]; simp; omega) (by simpa using ih)
    refine Ev.step (fun k => ?_) h1
    simp only [spec_cbStuff.l0]
    rw [if_pos e1, if_pos (Int.natCast_nonneg _), if_pos e1, if_pos (by rw [stuffM_length p hp]; omega), e2]
    simp
theorem spec_cbStuff_ev (l : List Int) (p : Nat) (hp : 1 ≤ p) (hp8 : p ≤ 1000) (hl : l.length ≤ 100000) : Ev (fun k => spec_cbStuff.f k l (p : Int)) (stuffM p l) := by
  have h := spec_cbStuff_l0 l p hp hp8 hl l [] rfl
  simpa [spec_cbStuff.f, stuffM] using h

theorem impl_stuff_l0 (l : List Int) (p : Nat) (hp : 1 ≤ p) (hp8 : p ≤ 1000) (hl : l.length ≤ 100000) : ∀ (t q : List Int), l = q ++ t → Ev (fun k => impl_stuff.l0 k (p : Int) (stuffM p q ++ List.replicate (t.length * p) 0) l (l.length : Int) (q.length : Int)) (stuffM p l)
  | [], q, h => by
    have e : q = l := by rw [h]; simp
    subst e
    refine Ev.step (f := fun _ => some _) (fun k => ?_) (Ev.now _)
    simp [impl_stuff.l0]
  | x :: t, q, h => by
    have e1 : (q.length : Int) < (l.length : Int) := by rw [h]; exact lt_mid q t x
    have e2 : rd l (q.length : Int) = x := by rw [h]; exact rd_mid q t x
    have e3 : wrap64 ((q.length : Int) + 1) = ((q ++ [x]).length : Int) := w64_suc q x (by omega)
    have hql : q.length ≤ 100000 := by have : q.length ≤ l.length := by rw [h]; simp
                                       omega
    have hqp : q.length * p ≤ 100000 * 1000 := Nat.mul_le_mul hql hp8
    have e4 : wrap64 ((q.length : Int) * (p : Int)) = ((q.length * p : Nat) : Int) := by
      rw [← Int.natCast_mul]
      exact w64 (by omega) (by omega)
    have e5 : List.replicate ((x :: t).length * p) (0 : Int) = 0 :: (List.replicate (p - 1) 0 ++ List.replicate (t.length * p) 0) := by
      have : (x :: t).length * p = ((p - 1) + t.length * p) + 1 := by
        rw [List.length_cons, Nat.add_mul]
        omega
      rw [this, List.replicate_succ, ← List.replicate_append_replicate]
    have e6 : (stuffM p q ++ (0 :: (List.replicate (p - 1) 0 ++ List.replicate (t.length * p) 0))).set (((q.length * p : Nat) : Int).toNat) x = stuffM p (q ++ [x]) ++ List.replicate (t.length * p) 0 := by
      rw [Int.toNat_natCast, ← stuffM_length p hp q, stuffM_snoc]
      simp
    refine Ev.step (fun k => ?_) (impl_stuff_l0 l p hp hp8 hl t (q ++ [x]) (by simp [h]))
    simp only [impl_stuff.l0, e4]
    rw [if_pos e1, if_pos (Int.natCast_nonneg _), if_pos e1, if_pos (Int.natCast_nonneg _), e5, if_pos, e2, e3, e6]
    exact Int.ofNat_lt.2 (by rw [List.length_append, stuffM_length p hp, List.length_cons]; omega)
theorem impl_stuff_ev (l : List Int) (p : Nat) (hp : 1 ≤ p) (hp8 : p ≤ 1000) (hl : l.length ≤ 100000) : Ev (fun k => impl_stuff.f k l (p : Int)) (stuffM p l) := by
  have h := impl_stuff_l0 l p hp hp8 hl l [] rfl
  have hlp : l.length * p ≤ 100000 * 1000 := Nat.mul_le_mul hl hp8
  have e4 : wrap64 ((l.length : Int) * (p : Int)) = ((l.length * p : Nat) : Int) := by
    rw [← Int.natCast_mul]
    exact w64 (by omega) (by omega)
  simp only [impl_stuff.f, e4]
  rw [Int.toNat_natCast]
  refine Ev.tt (Int.natCast_nonneg _) (Ev.tt (by omega) ?_)
  simpa [stuffM] using h

theorem impl_isRate_eq (n : Int) : impl_isRate.f n = some (decide (1 ≤ n) && decide (n ≤ 8)) := by
  unfold impl_isRate.f
  rw [impl_in_eq]
  rfl

def stuffZ (l : List Int) (p : Int) : List Int × Bool := if sig l = true ∧ 1 ≤ p ∧ p ≤ 8 then toldM (stuffM p.toNat l) else ([], false)
theorem impl_StuffZeros_ev (l : List Int) (p : Int) (hl : l.length ≤ 140737488351232) : Ev (fun k => impl_StuffZeros.f k l p) (stuffZ l p) := by
  simp only [impl_StuffZeros.f, stuffZ]
  refine Ev.bind (impl_isSignal_ev l hl) ?_
  by_cases c : sig l = true
  · refine Ev.tt c (Ev.dbind (impl_isRate_eq p) ?_)
    by_cases d : 1 ≤ p ∧ p ≤ 8
    · have hd : (decide (1 ≤ p) && decide (p ≤ 8)) = true := by simp [d.1, d.2]
      rw [if_pos ⟨c, d⟩, hd]
      obtain ⟨n, rfl⟩ : ∃ n : Nat, p = (n : Int) := ⟨p.toNat, by omega⟩
      have hs := sig_len c
      refine Ev.step (fun k => by simp only [impl_StuffZeros.j0]; rfl) (Ev.ff (by decide) (Ev.bind (impl_stuff_ev l n (by omega) (by omega) (by omega)) (Ev.bind (impl_told_ev _ ?_) (Ev.now _))))
      have : l.length * n ≤ 64 * 8 := Nat.mul_le_mul hs (by omega)
      rw [stuffM_length n (by omega)]
      omega
    · have hd : (decide (1 ≤ p) && decide (p ≤ 8)) = false := by simp; omega
      rw [if_neg (fun h => d h.2), hd]
      exact Ev.step (f := fun _ => some ([], false)) (fun k => by simp [impl_StuffZeros.j0]) (Ev.now _)
  · rw [if_neg (fun h => c h.1)]
    exact Ev.ff c (Ev.step (f := fun _ => some ([], false)) (fun k => by simp [impl_StuffZeros.j0]) (Ev.now _))

def direct (h l : List Int) (p q : Nat) : List Int := dropM ((conv h (stuffM p l)).take (stuffM p l).length) q 0
theorem wts_sig_bd {h l : List Int} (hh : wts h = true) (hl : ∀ x ∈ l, -100000 ≤ x ∧ x ≤ 100000) : ∀ a ∈ h, ∀ x ∈ l, -(100000000 : Int) ≤ a * x ∧ a * x ≤ 100000000 := by
  intro a ha x hx
  have h1 := wts_mem hh a ha
  have h2 := hl x hx
  have h3 : (a * x).natAbs ≤ 1000 * 100000 := by
    rw [Int.natAbs_mul]
    exact Nat.mul_le_mul (by omega) (by omega)
  omega
theorem conv_len_ge (h s : List Int) (hh : 1 ≤ h.length) : s.length ≤ (conv h s).length := by
  by_cases c : s = []
  · subst c; simp
  · rw [conv_length h s c]
    omega
theorem spec_rsDirect_ev (h l : List Int) (p q : Nat) (hh : wts h = true) (hl : sig l = true) (hp : 1 ≤ p ∧ p ≤ 8) (hq : 1 ≤ q ∧ q ≤ 8) : Ev (fun k => spec_rsDirect.f k h l (p : Int) (q : Int)) (direct h l p q) := by
  have hs := sig_len hl
  have hw := wts_len hh
  have hlp : l.length * p ≤ 64 * 8 := Nat.mul_le_mul hs hp.2
  have hsl := stuffM_length p hp.1 l
  simp only [spec_rsDirect.f, direct]
  refine Ev.bind (spec_cbStuff_ev l p hp.1 (by omega) (by omega)) (Ev.bind (spec_weAnswer_ev h (stuffM p l) 100000000 (by omega) (by omega) (by omega) (wts_sig_bd hh (stuffM_sig p l (sig_mem hl))) (by omega)) ?_)
  refine Ev.tt (Int.natCast_nonneg _) (Ev.tt (Int.ofNat_le.2 (conv_len_ge h _ hw.1)) ?_)
  rw [Int.toNat_natCast]
  exact Ev.bind (spec_cbDrop_ev _ q 0 hq.1 (by omega) (by simp; omega) (by omega)) (Ev.now _)

def upDown (h l : List Int) (p q : Int) : List Int × Bool := if rsOk h l p q = true then toldM (direct h l p.toNat q.toNat) else ([], false)
theorem rsOk_iff {h l : List Int} {p q : Int} : rsOk h l p q = true ↔ wts h = true ∧ sig l = true ∧ (1 ≤ p ∧ p ≤ 8) ∧ (1 ≤ q ∧ q ≤ 8) ∧ (l.length : Int) * p ≤ 64 := by
  simp only [rsOk, Bool.and_eq_true, ratio_iff, decide_eq_true_eq]
  constructor
  · rintro ⟨a, ⟨b, c, d⟩, e⟩
    exact ⟨a, b, c, d, e⟩
  · rintro ⟨a, b, c, d, e⟩
    exact ⟨a, ⟨b, c, d⟩, e⟩
theorem direct_len (h l : List Int) (p q : Nat) (hl : sig l = true) (hp : 1 ≤ p ∧ p ≤ 8) (hq : 1 ≤ q) : (direct h l p q).length ≤ 512 := by
  have hs := sig_len hl
  have hlp : l.length * p ≤ 64 * 8 := Nat.mul_le_mul hs hp.2
  have hsl := stuffM_length p hp.1 l
  rw [direct, dropM_length]
  have := dropN_le (len := ((conv h (stuffM p l)).take (stuffM p l).length).length) (first := 0) hq
  rw [List.length_take] at this ⊢
  omega

theorem spec_UpFilter_ev (h l : List Int) (p : Int) (hh : h.length ≤ 140737488351232) (hl : l.length ≤ 140737488351232) : Ev (fun k => spec_UpFilter.f k h l p) (upDown h l p 1) := by
  simp only [spec_UpFilter.f, upDown]
  refine Ev.bind (spec_rsAsked_ev h l p 1 hh hl) ?_
  by_cases c : rsOk h l p 1 = true
  · rw [if_pos c]
    have d := rsOk_iff.1 c
    have hd := d
    obtain ⟨m, rfl⟩ : ∃ m : Nat, p = (m : Int) := ⟨p.toNat, by omega⟩
    have h1 := spec_rsDirect_ev h l m 1 hd.1 hd.2.1 (by omega) (by omega)
    have := direct_len h l m 1 hd.2.1 (by omega) (by omega)
    refine Ev.tt c (Ev.bind h1 (Ev.bind (spec_wdIf_ev _ (by omega)) (Ev.now _)))
  · rw [if_neg c]
    exact Ev.ff c (Ev.now _)

theorem impl_UpFilterDown_ev (h l : List Int) (p q : Int) (hh : h.length ≤ 140737488351232) (hl : l.length ≤ 140737488351232) : Ev (fun k => impl_UpFilterDown.f k h l p q) (upDown h l p q) := by
  simp only [impl_UpFilterDown.f, upDown]
  refine Ev.bind (impl_isWeights_ev h hh) ?_
  by_cases c : wts h = true
  · refine Ev.tt c (Ev.dbind (impl_isRatio_eq p q) ?_)
    by_cases d : ratio p q = true
    · rw [d]
      refine Ev.step (fun k => by simp only [impl_UpFilterDown.j0]; rfl) (Ev.ff (by decide) (Ev.bind (impl_StuffZeros_ev l p hl) ?_))
      have d' := ratio_iff.1 d
      obtain ⟨m, rfl⟩ : ∃ m : Nat, p = (m : Int) := ⟨p.toNat, by omega⟩
      obtain ⟨n, rfl⟩ : ∃ n : Nat, q = (n : Int) := ⟨q.toNat, by omega⟩
      have hsl := stuffM_length m (by omega) l
      by_cases e : sig l = true
      · have hs := sig_len e
        have hlp : l.length * m ≤ 64 * 8 := Nat.mul_le_mul hs (by omega)
        have e1 : stuffZ l (m : Int) = toldM (stuffM m l) := by rw [stuffZ, if_pos ⟨e, d'.1⟩, Int.toNat_natCast]
        rw [e1]
        by_cases g : (l.length : Int) * (m : Int) ≤ 64
        · have g' : l.length * m ≤ 64 := by
            rw [← Int.natCast_mul] at g
            omega
          have hsm : sig (stuffM m l) = true := sig_iff.2 ⟨by omega, stuffM_sig m l (sig_mem e)⟩
          have e2 : toldM (stuffM m l) = (stuffM m l, true) := by rw [toldM, if_pos hsm]
          have hw := wts_len c
          rw [e2, if_pos (rsOk_iff.2 ⟨c, e, d'.1, d'.2, g⟩)]
          refine Ev.tt rfl (Ev.bind (impl_answer_ev h (stuffM m l) 100000000 (by omega) (by omega) (by omega) (wts_sig_bd c (stuffM_sig m l (sig_mem e))) (by omega)) ?_)
          refine Ev.tt (Int.natCast_nonneg _) (Ev.tt (Int.ofNat_le.2 (conv_len_ge h _ hw.1)) ?_)
          rw [Int.toNat_natCast]
          refine Ev.bind (impl_drop_ev _ n 0 (by omega) (by omega) (by simp; omega) (by omega)) (Ev.bind (impl_told_ev _ ?_) (Ev.now _))
          have := direct_len h l m n e (by omega) (by omega)
          show (dropM (List.take (stuffM m l).length (conv h (stuffM m l))) n 0).length ≤ _
          rw [direct] at this
          omega
        · have g' : ¬ l.length * m ≤ 64 := by
            rw [← Int.natCast_mul] at g
            omega
          have e2 : toldM (stuffM m l) = ([], false) := by rw [toldM, if_neg (fun h => g' (by have := (sig_iff.1 h).1; omega))]
          rw [e2, if_neg (fun h => g (rsOk_iff.1 h).2.2.2.2)]
          exact Ev.ff (by decide) (Ev.now _)
      · have e1 : stuffZ l (m : Int) = ([], false) := by rw [stuffZ, if_neg (fun h => e h.1)]
        rw [e1, if_neg (fun h => e (rsOk_iff.1 h).2.1)]
        exact Ev.ff (by decide) (Ev.now _)
    · rw [if_neg (fun h => d (ratio_iff.2 ⟨(rsOk_iff.1 h).2.2.1, (rsOk_iff.1 h).2.2.2.1⟩)), Bool.eq_false_iff.mpr d]
      exact Ev.step (f := fun _ => some ([], false)) (fun k => by simp [impl_UpFilterDown.j0]) (Ev.now _)
  · rw [if_neg (fun h => c (rsOk_iff.1 h).1)]
    exact Ev.ff c (Ev.step (f := fun _ => some ([], false)) (fun k => by simp [impl_UpFilterDown.j0]) (Ev.now _))
theorem upDown_len (h l : List Int) (p q : Int) : (upDown h l p q).1.length ≤ 64 := by
  unfold upDown
  split
  · exact toldM_len _
  · simp

theorem UpFilter_agree (h l : List Int) (p : Int) (hh : h.length ≤ 1048576) (hl : l.length ≤ 1048576) : ∃ r, Ev (fun k => spec_UpFilter.f k h l p) r ∧ Ev (fun k => impl_UpFilter.f k h l p) r ∧ r.1.length ≤ 1000000 :=
  ⟨_, spec_UpFilter_ev h l p (by omega) (by omega), by simp only [impl_UpFilter.f]; exact Ev.bind (impl_UpFilterDown_ev h l p 1 (by omega) (by omega)) (Ev.now _), by have := upDown_len h l p 1; omega⟩

theorem laws_toIntS_l0 (l : List Int) (hl : l.length ≤ 140737488351232) : ∀ (t p : List Int), l = p ++ t → Ev (fun k => laws_toIntS.l0 k l (p ++ List.replicate t.length 0) (p.length : Int)) l
  | [], p, h => by
    apply Ev.step (f := fun _ => some l)
    · intro k
      subst h
      simp [laws_toIntS.l0]
    · exact Ev.now _
  | x :: t, p, h => by
    have e1 : (p.length : Int) < (l.length : Int) := by rw [h]; exact lt_mid p t x
    have e2 : rd l (p.length : Int) = x := by rw [h]; exact rd_mid p t x
    have e3 : wrap64 ((p.length : Int) + 1) = ((p ++ [x]).length : Int) := nx_mid p t x (h ▸ hl)
    have e4 : (p.length : Int) < ((p ++ List.replicate (x :: t).length 0 : List Int).length : Int) := by simp; omega
    have e5 : (p ++ List.replicate (x :: t).length 0 : List Int).set (p.length : Int).toNat x = (p ++ [x]) ++ List.replicate t.length 0 := by
      simp [List.replicate_succ]
    refine Ev.step (fun k => ?_) (laws_toIntS_l0 l hl t (p ++ [x]) (by simp [h]))
    simp only [laws_toIntS.l0, if_pos e1, if_pos (Int.natCast_nonneg _), if_pos e4, e2, e3, e5]
theorem laws_toIntS_ev (l : List Int) (hl : l.length ≤ 17592186044416) : Ev (fun k => laws_toIntS.f k l) l := by
  have h := laws_toIntS_l0 l (by omega) l [] rfl
  simp only [laws_toIntS.f]
  refine Ev.tt (Int.natCast_nonneg _) (Ev.tt ?_ ?_)
  · simp; omega
  · simpa using h

theorem laws_eqIntS_l0 (l m : List Int) (hl : l.length ≤ 140737488351232) : ∀ (t p u q : List Int), l = p ++ t → m = q ++ u → p.length = q.length → t.length = u.length → Ev (fun k => laws_eqIntS.l0 k l m (p.length : Int)) (t == u)
  | [], p, [], q, h, h', e, _ => by
    apply Ev.step (f := fun _ => some _)
    · intro k
      subst h
      simp [laws_eqIntS.l0]; rfl
    · exact Ev.now _
  | x :: t, p, y :: u, q, h, h', e, e' => by
    have e1 : (p.length : Int) < (l.length : Int) := by rw [h]; exact lt_mid p t x
    have e2 : rd l (p.length : Int) = x := by rw [h]; exact rd_mid p t x
    have e3 : wrap64 ((p.length : Int) + 1) = ((p ++ [x]).length : Int) := nx_mid p t x (h ▸ hl)
    have e4 : (p.length : Int) < (m.length : Int) := by rw [h', e]; exact lt_mid q u y
    have e5 : rd m (p.length : Int) = y := by rw [h', e]; exact rd_mid q u y
    by_cases c : x = y
    · refine Ev.to (Ev.step (fun k => ?_) (laws_eqIntS_l0 l m hl t (p ++ [x]) u (q ++ [y]) (by simp [h]) (by simp [h']) (by simp [e]) (by simpa using e'))) (by simp [c])
      simp only [laws_eqIntS.l0, if_pos e1, if_pos (Int.natCast_nonneg _), if_pos e4, e2, e3, e5, if_pos c]
    · refine Ev.to (Ev.step (fun k => ?_) (Ev.now false)) (by simp [c])
      simp only [laws_eqIntS.l0, if_pos e1, if_pos (Int.natCast_nonneg _), if_pos e4, e2, e3, e5, if_neg c]
theorem laws_eqIntS_ev (l m : List Int) (hl : l.length ≤ 140737488351232) : Ev (fun k => laws_eqIntS.f k l m) (l == m) := by
  simp only [laws_eqIntS.f]
  by_cases c : (l.length : Int) = (m.length : Int)
  · exact Ev.tt c (laws_eqIntS_l0 l m hl l [] m [] rfl rfl rfl (by omega))
  · refine Ev.ff c (Ev.to (Ev.now false) ?_)
    have : l ≠ m := fun h => c (by rw [h])
    simp [this]
theorem laws_eqIntS_self (l : List Int) (hl : l.length ≤ 140737488351232) : Ev (fun k => laws_eqIntS.f k l l) true := Ev.to (laws_eqIntS_ev l l hl) (by simp)

def marks : Nat → Int → List Int
  | 0, _ => []
  | n + 1, m => m :: marks n (m + 1)
theorem marks_length : ∀ (n : Nat) (m : Int), (marks n m).length = n
  | 0, _ => rfl
  | n + 1, m => by simp [marks, marks_length n]
theorem laws_markIntS_l0 : ∀ (t p : List Int) (m : Int), p.length + t.length ≤ 140737488351232 → 0 ≤ m → m + t.length ≤ 1000000000000000000 → Ev (fun k => laws_markIntS.l0 k (p ++ t) m (p.length : Int)) (m + t.length, p ++ marks t.length m)
  | [], p, m, h, h0, h1 => Ev.to (Ev.step (f := fun _ => some (m, p)) (fun k => by simp [laws_markIntS.l0]) (Ev.now _)) (by simp [marks])
  | x :: t, p, m, h, h0, h1 => by
    have e1 : (p.length : Int) < ((p ++ x :: t).length : Int) := lt_mid p t x
    simp only [List.length_cons] at h h1
    have e3 : wrap64 ((p.length : Int) + 1) = ((p ++ [m]).length : Int) := by
      simp
      exact w64 (by omega) (by omega)
    have e5 : (p ++ x :: t).set (p.length : Int).toNat m = (p ++ [m]) ++ t := by simp
    have e6 : wrap64 (m + 1) = m + 1 := w64 (by omega) (by omega)
    refine Ev.to (Ev.step (fun k => ?_) (laws_markIntS_l0 t (p ++ [m]) (m + 1) (by simp; omega) (by omega) (by omega))) ?_
    · simp only [laws_markIntS.l0, if_pos e1, if_pos (Int.natCast_nonneg _), e3, e5, e6]
    · simp [marks]; omega
theorem laws_markIntS_ev (l : List Int) (m : Int) (h : l.length ≤ 140737488351232) (h0 : 0 ≤ m) (h1 : m ≤ 100000000000000000) : Ev (fun k => laws_markIntS.f k l m) (m + l.length, marks l.length m) := by
  have h := laws_markIntS_l0 l [] m (by simpa using h) h0 (by omega)
  simpa [laws_markIntS.f] using h

theorem laws_heldIntS_l0 : ∀ (n : Nat) (l p : List Int) (m : Int), l = p ++ marks n m → l.length ≤ 140737488351232 → 0 ≤ m → m + n ≤ 1000000000000000000 → Ev (fun k => laws_heldIntS.l0 k l m (p.length : Int)) (m + n)
  | 0, l, p, m, h, hl, h0, h1 => Ev.to (Ev.step (f := fun _ => some m) (fun k => by subst h; simp [laws_heldIntS.l0, marks]) (Ev.now _)) (by simp)
  | n + 1, l, p, m, h, hl, h0, h1 => by
    simp only [marks] at h
    have e1 : (p.length : Int) < (l.length : Int) := by rw [h]; exact lt_mid p _ _
    have e2 : rd l (p.length : Int) = m := by rw [h]; exact rd_mid p _ _
    have e3 : wrap64 ((p.length : Int) + 1) = ((p ++ [m]).length : Int) := nx_mid p _ m (h ▸ hl)
    have e6 : wrap64 (m + 1) = m + 1 := w64 (by omega) (by omega)
    refine Ev.to (Ev.step (fun k => ?_) (laws_heldIntS_l0 n l (p ++ [m]) (m + 1) (by simp [h]) hl (by omega) (by omega))) (by omega)
    simp only [laws_heldIntS.l0, if_pos e1, if_pos (Int.natCast_nonneg _), e2, if_true, e3, e6]
theorem laws_heldIntS_ev (n : Nat) (h : n ≤ 140737488351232) : Ev (fun k => laws_heldIntS.f k (marks n 1) 1) (1 + n) := by
  have h := laws_heldIntS_l0 n (marks n 1) [] 1 rfl (by simpa [marks_length] using h) (by omega) (by omega)
  simpa [laws_heldIntS.f] using h

theorem FnExactUpFilter : laws_FnExactUpFilter.Pure := by
  intro l0 l1 a2 hm0 he0 hx0 hm1 he1 hx1 ha2
  apply Ev.rounds
  simp only [laws_FnExactUpFilter.f]
  by_cases c0 : (l0.length : Int) > 1048576
  · exact Ev.tt c0 (Ev.now _)
  refine Ev.ff c0 ?_
  have hl0 : l0.length ≤ 1048576 := by omega
  by_cases c1 : (l1.length : Int) > 1048576
  · exact Ev.tt c1 (Ev.now _)
  refine Ev.ff c1 ?_
  have hl1 : l1.length ≤ 1048576 := by omega
  obtain ⟨r, hs, hi, hb⟩ := UpFilter_agree l0 l1 a2 hl0 hl1
  obtain ⟨r0, r1⟩ := r
  try simp only at hb
  repeat ((try dsimp only); first | exact Ev.now _ | refine Ev.bind (laws_toIntS_ev l0 (by omega)) ?_ | refine Ev.bind (laws_toIntS_ev l1 (by omega)) ?_ | refine Ev.bind hs ?_ | refine Ev.bind hi ?_ | refine Ev.bind (laws_eqIntS_self _ (by omega)) ?_ | refine Ev.bind (laws_markIntS_ev _ _ (by omega) (by omega) (by omega)) ?_ | refine Ev.bind (laws_heldIntS_ev _ (by omega)) ?_ | refine Ev.tt rfl ?_ | refine Ev.ff (by first | omega | decide) ?_ | (refine Ev.step (fun k => by simp only [laws_FnExactUpFilter.j0, bne_self_eq_false]; rfl) ?_) | (refine Ev.step (fun k => by simp only [laws_FnExactUpFilter.j1, bne_self_eq_false]; rfl) ?_) | (refine Ev.step (fun k => by simp only [laws_FnExactUpFilter.j2, bne_self_eq_false]; rfl) ?_))

end Go.Proofs.Ytkfbaiabaplahaa.Pure
