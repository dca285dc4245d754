/- One bit modulators keep the sum of the signal within their state, which stays in its range. Conditions: none beyond those that the statement itself prints. -/
import Derived.Test.YthpdpbjgdndnmaaPFnBitsKeepSumsx6
namespace Go.Proofs.Ythpdpbjgdndnmaa.Pure
open Go.RowKit Go.Proofs.Ythpdpbjgdndnmaa.PFnBitsKeepSums Go.Proofs.YthpdpbjgdndnmaaW.PrintWords Go.Proofs.YthpdpbjgdndnmaaW.PrintLast Go.Proofs.YthpdpbjgdndnmaaW.PrintMore
set_option linter.unusedVariables false
set_option linter.unusedSimpArgs false

theorem w64 {n : Int} (h1 : -9223372036854775808 ≤ n) (h2 : n ≤ 9223372036854775807) : wrap64 n = n := by
  unfold wrap64
  omega
theorem Ev.to {α : Type} {g : Nat → Option α} {r r' : α} (h : Ev g r) (e : r = r') : Ev g r' := e ▸ h
theorem Ev.const {α : Type} {g : Option α} {r : α} (h : g = some r) : Ev (fun _ => g) r := ⟨0, fun _ _ => h⟩
theorem Ev.dbind {α β : Type} {g : Option α} {f : Nat → α → Option β} {a : α} {r : β} (h : g = some a) (k : Ev (fun n => f n a) r) : Ev (fun n => g.bind (f n)) r :=
  Ev.bind (g := fun _ => g) (Ev.const h) k
theorem Ev.tt {α : Type} {c : Prop} {_ : Decidable c} {g f : Nat → Option α} {r : α} (h : c) (k : Ev g r) : Ev (fun n => if c then g n else f n) r := by
  simpa only [if_pos h] using k
theorem Ev.ff {α : Type} {c : Prop} {_ : Decidable c} {g f : Nat → Option α} {r : α} (h : ¬ c) (k : Ev f r) : Ev (fun n => if c then g n else f n) r := by
  simpa only [if_neg h] using k
theorem rd_mid (p t : List Int) (x : Int) : rd (p ++ x :: t) (p.length : Int) = x := by
  simp [rd]
theorem lt_mid {α : Type} (p t : List α) (x : α) : (p.length : Int) < ((p ++ x :: t).length : Int) := by
  simp
  omega
theorem nx_mid {α : Type} (p t : List α) (x : α) (h : (p ++ x :: t).length ≤ 140737488351232) : wrap64 ((p.length : Int) + 1) = ((p ++ [x]).length : Int) := by
  simp at h ⊢
  exact w64 (by omega) (by omega)
theorem ap_mid {α : Type} (p t : List α) (x : α) : p ++ x :: t = (p ++ [x]) ++ t := by simp
theorem w64_nat (a b : Nat) (h : a + b ≤ 1000000000) : wrap64 ((a : Int) + (b : Int)) = ((a + b : Nat) : Int) := by
  rw [w64 (n := (a : Int) + (b : Int)) (by omega) (by omega)]
  omega
theorem w64_suc {α : Type} (q : List α) (x : α) (h : q.length ≤ 1000000000) : wrap64 ((q.length : Int) + 1) = ((q ++ [x]).length : Int) := by
  rw [w64 (n := (q.length : Int) + 1) (by omega) (by omega)]
  simp
theorem ar1 {a b c d : Nat} (h1 : a + 1 ≤ c) (h2 : b + 1 ≤ d) : ((a + b : Nat) : Int) < ((c + d - 1 : Nat) : Int) := by omega
theorem ar2 {a b c d : Nat} (h1 : a + 1 ≤ c) (h2 : b + 1 ≤ d) : a + b < c + d - 1 := by omega
theorem ar3 (a b : Nat) : ¬ (a ≤ a + b ∧ a + b - a < b) := by omega
theorem ar4 {v M : Int} (h : -M ≤ v ∧ v ≤ M) (hm : M ≤ 4000000000000000000) : wrap64 v = v := w64 (by omega) (by omega)
theorem ar5 {c v P M H : Int} (hc : -P ≤ c ∧ c ≤ P) (hv : -M ≤ v ∧ v ≤ M) (hp : P + M ≤ H) (hH : H ≤ 4000000000000000000) : wrap64 (c + v) = c + v := w64 (by omega) (by omega)
theorem ar6 {a b : Nat} {M : Int} (h : a + 1 ≤ b) (hM : 0 ≤ M) : (a : Int) * M + M ≤ (b : Int) * M := by
  have h1 : ((a : Int) + 1) * M ≤ (b : Int) * M := Int.mul_le_mul_of_nonneg_right (by omega) hM
  rw [Int.add_mul, Int.one_mul] at h1
  exact h1
theorem ar7 {a b c d : Nat} (h1 : a + 1 ≤ c) (h2 : b + 1 ≤ d) (h : c + d ≤ 100000000) : a + b ≤ 1000000000 := by omega
theorem ar8 {a c d : Nat} (h1 : a + 1 ≤ c) (h : c + d ≤ 100000000) : a ≤ 1000000000 := by omega

def backOf (n : Int) : Int × Bool := if n = 3 then (-1, true) else if n = 4 then (0, true) else if n = 6 then (1, true) else (0, false)
def tnF (c : Int) : List Int → Int → Int → Int × Int
  | [], y, z => (y, z)
  | x :: t, y, z => tnF c t (wrap64 ((wrap64 (x + (wrap64 (c * y)))) - z)) y
def sig (l : List Int) : Bool := decide (l.length ≤ 64) && l.all fun x => decide (-100000 ≤ x) && decide (x ≤ 100000)
def toneStates (l : List Int) (n : Int) : Int × Int × Bool := if (backOf n).2 = true then (if sig l = true then ((tnF (backOf n).1 l 0 0).1, (tnF (backOf n).1 l 0 0).2, true) else (0, 0, false)) else (0, 0, false)
theorem sig_len {l : List Int} (h : sig l = true) : l.length ≤ 64 := by
  simp [sig] at h
  exact h.1
theorem sig_mem {l : List Int} (h : sig l = true) : ∀ x ∈ l, -100000 ≤ x ∧ x ≤ 100000 := by
  simp [sig] at h
  exact h.2
def isBits (l : List Int) : Bool := decide (l.length ≤ 200) && l.all fun x => decide (x = 1 ∨ x = -1)
theorem isBits_len {l : List Int} (h : isBits l = true) : l.length ≤ 200 := by
  simp [isBits] at h
  exact h.1
theorem isBits_mem {l : List Int} (h : isBits l = true) : ∀ x ∈ l, x = 1 ∨ x = -1 := by
  simp [isBits] at h
  exact h.2
def toldM (l : List Int) : List Int × Bool := if sig l = true then (l, true) else ([], false)
theorem toldM_len (l : List Int) : (toldM l).1.length ≤ 64 := by
  unfold toldM
  split
  · exact sig_len ‹_›
  · simp
def bitM (x v : Int) : Int := if x ≥ v then 1 else -1
theorem bitM_cases (x v : Int) : bitM x v = 1 ∨ bitM x v = -1 := by
  unfold bitM
  split <;> simp
def tkS (st last : Int) (fixed : Bool) (bit : Int) : Int :=
  if fixed = true then st else if last = 0 then st else if bit = last then (if 2 * st ≤ 4096 then 2 * st else 4096) else (if 1 ≤ st / 2 then st / 2 else 1)
theorem tkS_bd {st last : Int} {fixed : Bool} {bit : Int} (h0 : 1 ≤ st) (h1 : st ≤ 4096) : 1 ≤ tkS st last fixed bit ∧ tkS st last fixed bit ≤ 4096 := by
  unfold tkS
  repeat' split
  all_goals omega
theorem mul_bit {st bit : Int} (hb : bit = 1 ∨ bit = -1) : st * bit = st ∨ st * bit = -st := by
  rcases hb with rfl | rfl
  · left; omega
  · right; omega
/-- bit, value and step behind each sample -/
def codeM (fixed : Bool) : List Int → Int → Int → Int → List (Int × Int × Int)
  | [], _, _, _ => []
  | x :: t, v, st, last =>
    let b := bitM x v
    let s := tkS st last fixed b
    (b, v + s * b, s) :: codeM fixed t (v + s * b) s b
theorem codeM_length (fixed : Bool) : ∀ (l : List Int) (v st last : Int), (codeM fixed l v st last).length = l.length
  | [], _, _, _ => rfl
  | x :: t, v, st, last => by simp [codeM, codeM_length fixed t]
def fixM (st : Int) : List Int → Int → List Int
  | [], _ => []
  | x :: t, v => bitM x v :: fixM st t (v + bitM x v * st)
theorem fixM_length (st : Int) : ∀ (l : List Int) (v : Int), (fixM st l v).length = l.length
  | [], _ => rfl
  | x :: t, v => by simp [fixM, fixM_length st t]
def fixedBits (l : List Int) (st : Int) : List Int × Bool := if sig l = true ∧ 1 ≤ st ∧ st ≤ 4096 then (fixM st l 0, true) else ([], false)
def decM (fixed : Bool) : List Int → Int → Int → Int → List (Int × Int)
  | [], _, _, _ => []
  | b :: t, v, st, last => (v + tkS st last fixed b * b, tkS st last fixed b) :: decM fixed t (v + tkS st last fixed b * b) (tkS st last fixed b) b
theorem decM_length (fixed : Bool) : ∀ (l : List Int) (v st last : Int), (decM fixed l v st last).length = l.length
  | [], _, _, _ => rfl
  | x :: t, v, st, last => by simp [decM, decM_length fixed t]
def gapM : List Int → List Int → List Int
  | x :: t, y :: u => (x - y) :: gapM t u
  | _, _ => []
theorem gapM_length : ∀ (l m : List Int), l.length = m.length → (gapM l m).length = l.length
  | [], m, _ => by cases m <;> simp [gapM]
  | x :: t, [], h => by simp at h
  | x :: t, y :: u, h => by
    simp at h
    simp [gapM, gapM_length t u h]
theorem codeM_val (fixed : Bool) : ∀ (l : List Int) (v st last : Int) (n : Int), 1 ≤ st → st ≤ 4096 → -4096 * n ≤ v → v ≤ 4096 * n → ∀ y ∈ (codeM fixed l v st last).map (·.2.1), -4096 * (n + l.length) ≤ y ∧ y ≤ 4096 * (n + l.length)
  | [], _, _, _, _, _, _, _, _, y, hy => by simp [codeM] at hy
  | x :: t, v, st, last, n, h0, h1, hv0, hv1, y, hy => by
    have hb := bitM_cases x v
    have hk := tkS_bd (last := last) (fixed := fixed) (bit := bitM x v) h0 h1
    have hm := mul_bit (st := tkS st last fixed (bitM x v)) hb
    simp only [codeM, List.map_cons, List.mem_cons] at hy
    rcases hy with rfl | hy
    · simp; omega
    · have := codeM_val fixed t _ _ _ (n + 1) hk.1 hk.2 (by omega) (by omega) y hy
      simp; omega
def stepOk (st : Int) : Bool := decide (1 ≤ st) && decide (st ≤ 4096)
theorem stepOk_iff {st : Int} : stepOk st = true ↔ 1 ≤ st ∧ st ≤ 4096 := by simp [stepOk]
def stepBits (l : List Int) (st : Int) : List Int × Bool := if sig l = true then (if stepOk st = true then ((codeM false l 0 st 0).map (·.1), true) else ([], false)) else ([], false)
def stepValues (l : List Int) (st : Int) : List Int × Bool := if isBits l = true then (if stepOk st = true then toldM ((decM false l 0 st 0).map (·.1)) else ([], false)) else ([], false)
def stepsOfBits (l : List Int) (st : Int) : List Int × Bool := if isBits l = true then (if stepOk st = true then toldM ((decM false l 0 st 0).map (·.2)) else ([], false)) else ([], false)
def fixedValues (l : List Int) (st : Int) : List Int × Bool := if isBits l = true then (if stepOk st = true then toldM ((decM true l 0 st 0).map (·.1)) else ([], false)) else ([], false)
def stepGaps (l : List Int) (st : Int) : List Int × Bool := if sig l = true then (if stepOk st = true then toldM (gapM l ((codeM false l 0 st 0).map (·.2.1))) else ([], false)) else ([], false)
def wts (l : List Int) : Bool := decide (1 ≤ l.length) && decide (l.length ≤ 9) && l.all fun x => decide (-1000 ≤ x) && decide (x ≤ 1000)
theorem wts_len {l : List Int} (h : wts l = true) : 1 ≤ l.length ∧ l.length ≤ 9 := by
  simp [wts] at h
  exact ⟨h.1.1, h.1.2⟩
theorem wts_mem {l : List Int} (h : wts l = true) : ∀ x ∈ l, -1000 ≤ x ∧ x ≤ 1000 := by
  simp [wts] at h
  exact h.2
def ratio (p q : Int) : Bool := (decide (1 ≤ p) && decide (p ≤ 8)) && (decide (1 ≤ q) && decide (q ≤ 8))
theorem ratio_iff {p q : Int} : ratio p q = true ↔ (1 ≤ p ∧ p ≤ 8) ∧ (1 ≤ q ∧ q ≤ 8) := by simp [ratio]
def rsOk (h l : List Int) (p q : Int) : Bool := wts h && ((sig l && ratio p q) && decide ((l.length : Int) * p ≤ 64))
def peakM : List Int → Nat → Nat
  | [], m => m
  | x :: t, m => peakM t (max m x.natAbs)

def cv : List Int → List Int → Nat → Int
  | [], _, _ => 0
  | w :: _, s, 0 => w * s.getD 0 0
  | w :: h, s, n + 1 => w * s.getD (n + 1) 0 + cv h s n
def Lf (f : Nat → Int) (N : Nat) : List Int := (List.range N).map f
theorem Lf_length (f : Nat → Int) (N : Nat) : (Lf f N).length = N := by simp [Lf]
theorem rd_Lf (f : Nat → Int) (N i : Nat) (h : i < N) : rd (Lf f N) (i : Int) = f i := by
  simp [rd, Lf, h]
theorem set_Lf (f : Nat → Int) (N i : Nat) (v : Int) : (Lf f N).set i v = Lf (fun n => if n = i then v else f n) N := by
  apply List.ext_getElem
  · simp [Lf]
  · intro n h1 h2
    simp [Lf, List.getElem_set]
    by_cases c : i = n
    · simp [c]
    · rw [if_neg c, if_neg (fun h => c h.symm)]
theorem Lf_congr {f g : Nat → Int} {N : Nat} (h : ∀ n, n < N → f n = g n) : Lf f N = Lf g N := by
  apply List.ext_getElem
  · simp [Lf]
  · intro n h1 h2
    simp [Lf] at h1 ⊢
    exact h n h1
theorem cv_snoc (s : List Int) (w : Int) : ∀ (p : List Int) (n : Nat), cv (p ++ [w]) s n = cv p s n + (if p.length ≤ n then w * s.getD (n - p.length) 0 else 0)
  | [], 0 => by simp [cv]
  | [], n + 1 => by simp [cv]
  | a :: p, 0 => by simp [cv]
  | a :: p, n + 1 => by
    simp only [List.cons_append, cv, cv_snoc s w p n, List.length_cons, Nat.add_le_add_iff_right, Nat.add_sub_add_right]
    omega
theorem getD_bd {s : List Int} {a M : Int} (hM : 0 ≤ M) (h : ∀ x ∈ s, -M ≤ a * x ∧ a * x ≤ M) (n : Nat) : -M ≤ a * s.getD n 0 ∧ a * s.getD n 0 ≤ M := by
  rw [List.getD_eq_getElem?_getD]
  by_cases c : n < s.length
  · rw [List.getElem?_eq_getElem c]
    exact h _ (List.getElem_mem c)
  · rw [List.getElem?_eq_none (by omega)]
    simp
    omega
theorem cv_bd {s : List Int} {M : Int} (hM : 0 ≤ M) : ∀ (h : List Int) (n : Nat), (∀ a ∈ h, ∀ x ∈ s, -M ≤ a * x ∧ a * x ≤ M) → -(h.length * M) ≤ cv h s n ∧ cv h s n ≤ h.length * M
  | [], n, hb => by simp [cv]
  | a :: h, 0, hb => by
    have h1 := getD_bd hM (hb a (by simp)) 0
    have h2 : 0 ≤ (h.length : Int) * M := Int.mul_nonneg (by omega) hM
    simp only [cv, List.length_cons, Int.natCast_add, Int.add_mul]
    omega
  | a :: h, n + 1, hb => by
    have h1 := getD_bd hM (hb a (by simp)) (n + 1)
    have h2 := cv_bd hM h n (fun b hbm => hb b (by simp [hbm]))
    simp only [cv, List.length_cons, Int.natCast_add, Int.add_mul]
    omega
def conv (h s : List Int) : List Int := if s = [] then [] else Lf (cv h s) (h.length + s.length - 1)
theorem conv_length (h s : List Int) (hs : s ≠ []) : (conv h s).length = h.length + s.length - 1 := by
  rw [conv, if_neg hs, Lf_length]
/-- what stands in the list when the weights p are done, and of the weight w the samples q -/
def cvi (p q s : List Int) (w : Int) (n : Nat) : Int := cv p s n + (if p.length ≤ n ∧ n - p.length < q.length then w * s.getD (n - p.length) 0 else 0)
theorem cvi_nil (p s : List Int) (w : Int) : cvi p [] s w = cv p s := by
  funext n
  simp [cvi]
theorem cvi_all (p s : List Int) (w : Int) (n : Nat) : cvi p s s w n = cv (p ++ [w]) s n := by
  rw [cv_snoc, cvi]
  by_cases c : p.length ≤ n
  · by_cases d : n - p.length < s.length
    · rw [if_pos ⟨c, d⟩, if_pos c]
    · rw [if_neg (fun h => d h.2), if_pos c, List.getD_eq_getElem?_getD, List.getElem?_eq_none (by omega)]
      simp
  · rw [if_neg (fun h => c h.1), if_neg c]
theorem getD_mid (q t : List Int) (x : Int) : (q ++ x :: t).getD q.length 0 = x := by simp
theorem cvi_step (p q t : List Int) (w x : Int) (n : Nat) : (if n = p.length + q.length then cvi p q (q ++ x :: t) w n + w * x else cvi p q (q ++ x :: t) w n) = cvi p (q ++ [x]) (q ++ x :: t) w n := by
  unfold cvi
  by_cases c : n = p.length + q.length
  · subst c
    have e : p.length + q.length - p.length = q.length := by omega
    rw [if_pos rfl, e, getD_mid, if_neg (by omega), if_pos ⟨by omega, by simp⟩]
    omega
  · rw [if_neg c]
    by_cases d : p.length ≤ n ∧ n - p.length < q.length
    · rw [if_pos d, if_pos ⟨d.1, by simp; omega⟩]
    · rw [if_neg d, if_neg (fun h => d ⟨h.1, by have := h.2; simp at this; omega⟩)]
theorem Lf_succ (f : Nat → Int) (n : Nat) : Lf f (n + 1) = Lf f n ++ [f n] := by simp [Lf, List.range_succ]
def dropN (len rate first : Nat) : Nat := (len - first + rate - 1) / rate
theorem dropN_lt {len rate first j : Nat} (hr : 1 ≤ rate) : j < dropN len rate first ↔ first + j * rate < len := by
  unfold dropN
  rw [Nat.lt_iff_add_one_le, Nat.le_div_iff_mul_le (by omega), Nat.add_mul]
  omega
def dropM (l : List Int) (rate first : Nat) : List Int := Lf (fun j => l.getD (first + j * rate) 0) (dropN l.length rate first)
theorem dropM_length (l : List Int) (rate first : Nat) : (dropM l rate first).length = dropN l.length rate first := Lf_length _ _
theorem dropN_le {len rate first : Nat} (hr : 1 ≤ rate) : dropN len rate first ≤ len := by
  apply Nat.le_of_not_lt
  intro h
  have := (dropN_lt hr).1 h
  have h2 : len * 1 ≤ len * rate := Nat.mul_le_mul_left len hr
  omega
def stuffM (p : Nat) : List Int → List Int
  | [] => []
  | x :: t => (x :: List.replicate (p - 1) 0) ++ stuffM p t
theorem stuffM_length (p : Nat) (hp : 1 ≤ p) : ∀ l : List Int, (stuffM p l).length = l.length * p
  | [] => by simp [stuffM]
  | x :: t => by
    simp only [stuffM, List.length_append, List.length_cons, List.length_replicate, stuffM_length p hp t, Nat.add_mul]
    omega
theorem stuffM_snoc (p : Nat) (x : Int) : ∀ l : List Int, stuffM p (l ++ [x]) = stuffM p l ++ (x :: List.replicate (p - 1) 0)
  | [] => by simp [stuffM]
  | y :: t => by simp [stuffM, stuffM_snoc p x t]
theorem rd_getD (l : List Int) (i : Nat) : rd l (i : Int) = l.getD i 0 := by simp [rd]
theorem stuffM_sig (p : Nat) : ∀ l : List Int, (∀ x ∈ l, -100000 ≤ x ∧ x ≤ 100000) → ∀ x ∈ stuffM p l, -100000 ≤ x ∧ x ≤ 100000
  | [], _, x, h => by simp [stuffM] at h
  | y :: t, hl, x, h => by
    simp only [stuffM, List.mem_append, List.mem_cons, List.mem_replicate] at h
    rcases h with (rfl | ⟨_, rfl⟩) | h
    · exact hl _ (by simp)
    · omega
    · exact stuffM_sig p t (fun z hz => hl z (by simp [hz])) x h
theorem sig_iff {l : List Int} : sig l = true ↔ l.length ≤ 64 ∧ ∀ x ∈ l, -100000 ≤ x ∧ x ≤ 100000 := by simp [sig]
theorem ediv_bd {x b : Int} (hb : 0 < b) (hx : -4611686018427387904 ≤ x ∧ x ≤ 4611686018427387904) : -4611686018427387905 ≤ x / b ∧ x / b ≤ 4611686018427387905 := by
  have h0 := Int.emod_nonneg x (show b ≠ 0 by omega)
  have h1 := Int.emod_lt_of_pos x hb
  have h2 := Int.emod_add_mul_ediv x b
  constructor
  · apply Int.not_lt.1
    intro h
    have : b * (x / b) ≤ 1 * (x / b) := Int.mul_le_mul_of_nonpos_right (by omega) (by omega)
    have h3 : b * (x / b) ≤ b * (-4611686018427387906) := Int.mul_le_mul_of_nonneg_left (by omega) (by omega)
    omega
  · apply Int.not_lt.1
    intro h
    have h3 : 1 * (x / b) ≤ b * (x / b) := Int.mul_le_mul_of_nonneg_right (by omega) (by omega)
    omega

theorem spec_l1In_eq (a b c : Int) : spec_l1In.f a b c = some (decide (b ≤ a) && decide (a ≤ c)) := by
  unfold spec_l1In.f
  by_cases h : b ≤ a <;> simp [h]

theorem impl_in_eq (a b c : Int) : impl_in.f a b c = some (decide (b ≤ a) && decide (a ≤ c)) := by
  unfold impl_in.f
  by_cases h : b ≤ a <;> simp [h]

theorem spec_l1All_l0 (lo hi : Int) (l : List Int) (hl : l.length ≤ 140737488351232) : ∀ (t p : List Int), l = p ++ t → Ev (fun k => spec_l1All.l0 k lo hi l (l.length : Int) (p.length : Int)) (t.all fun x => decide (lo ≤ x) && decide (x ≤ hi))
  | [], p, h => by
    apply Ev.step (f := fun _ => some _)
    · intro k
      subst h
      simp [spec_l1All.l0]; rfl
    · exact Ev.now _
  | x :: t, p, h => by
    have e1 : (p.length : Int) < (l.length : Int) := by rw [h]; exact lt_mid p t x
    have e2 : rd l (p.length : Int) = x := by rw [h]; exact rd_mid p t x
    have e3 : wrap64 ((p.length : Int) + 1) = ((p ++ [x]).length : Int) := nx_mid p t x (h ▸ hl)
    by_cases c : (decide (lo ≤ x) && decide (x ≤ hi)) = true
    · refine Ev.to (Ev.step (fun k => ?_) (spec_l1All_l0 lo hi l hl t (p ++ [x]) (by simp [h]))) (by rw [List.all_cons, c, Bool.true_and])
      simp only [spec_l1All.l0, if_pos e1, if_pos (Int.natCast_nonneg _), e2, e3, spec_l1In_eq, Option.bind_some, if_pos c]
    · refine Ev.to (Ev.step (fun k => ?_) (Ev.now false)) (by rw [List.all_cons, Bool.eq_false_iff.mpr c, Bool.false_and])
      simp only [spec_l1All.l0, if_pos e1, if_pos (Int.natCast_nonneg _), e2, e3, spec_l1In_eq, Option.bind_some, if_neg c]
theorem spec_l1All_ev (l : List Int) (lo hi : Int) (hl : l.length ≤ 140737488351232) : Ev (fun k => spec_l1All.f k l lo hi) (l.all fun x => decide (lo ≤ x) && decide (x ≤ hi)) := by
  simpa [spec_l1All.f] using spec_l1All_l0 lo hi l hl l [] rfl

theorem spec_wdSignal_ev (l : List Int) (hl : l.length ≤ 140737488351232) : Ev (fun k => spec_wdSignal.f k l) (sig l) := by
  simp only [spec_wdSignal.f]
  by_cases c : (l.length : Int) ≤ 64
  · refine Ev.tt c (Ev.bind (spec_l1All_ev l (-100000) 100000 hl) (Ev.to (Ev.now _) ?_))
    simp [sig]; omega
  · refine Ev.ff c (Ev.to (Ev.now _) ?_)
    simp [sig]; omega

theorem impl_isSignal_c1_eq (x : Int) : impl_isSignal_c1.f x = some (!(decide (-100000 ≤ x) && decide (x ≤ 100000))) := by
  unfold impl_isSignal_c1.f
  rw [impl_in_eq]
  rfl
theorem indexSignal_l0 (l : List Int) (hl : l.length ≤ 140737488351232) : ∀ (t p : List Int), l = p ++ t → ∃ r, Ev (fun k => slices_IndexFunc_int_int_impl_isSignal_c1.l0 k l (l.length : Int) (p.length : Int)) r ∧ (decide (r ≥ 0) = !(t.all fun x => decide (-100000 ≤ x) && decide (x ≤ 100000)))
  | [], p, h => by
    refine ⟨-1, Ev.step (f := fun _ => some (-1)) ?_ (Ev.now _), by simp⟩
    intro k
    subst h
    simp [slices_IndexFunc_int_int_impl_isSignal_c1.l0]
  | x :: t, p, h => by
    have e1 : (p.length : Int) < (l.length : Int) := by rw [h]; exact lt_mid p t x
    have e2 : rd l (p.length : Int) = x := by rw [h]; exact rd_mid p t x
    have e3 : wrap64 ((p.length : Int) + 1) = ((p ++ [x]).length : Int) := nx_mid p t x (h ▸ hl)
    by_cases c : (decide (-100000 ≤ x) && decide (x ≤ 100000)) = true
    · obtain ⟨r, h1, h2⟩ := indexSignal_l0 l hl t (p ++ [x]) (by simp [h])
      refine ⟨r, Ev.step (fun k => ?_) h1, by rw [h2, List.all_cons, c, Bool.true_and]⟩
      simp only [slices_IndexFunc_int_int_impl_isSignal_c1.l0, if_pos e1, if_pos (Int.natCast_nonneg _), e2, e3, impl_isSignal_c1_eq, c, Option.bind_some, Bool.not_true]
      rfl
    · have c := Bool.eq_false_iff.mpr c
      refine ⟨(p.length : Int), Ev.step (fun k => ?_) (Ev.now _), by rw [List.all_cons, c]; simp⟩
      simp only [slices_IndexFunc_int_int_impl_isSignal_c1.l0, if_pos e1, if_pos (Int.natCast_nonneg _), e2, e3, impl_isSignal_c1_eq, c, Option.bind_some, Bool.not_false]
      rfl
theorem impl_isSignal_ev (l : List Int) (hl : l.length ≤ 140737488351232) : Ev (fun k => impl_isSignal.f k l) (sig l) := by
  simp only [impl_isSignal.f]
  by_cases c : (l.length : Int) ≤ 64
  · obtain ⟨r, h1, h2⟩ := indexSignal_l0 l hl l [] rfl
    refine Ev.tt c (Ev.bind (a := decide (r ≥ 0)) ?_ (Ev.to (Ev.now _) ?_))
    · simp only [slices_ContainsFunc_int_int_impl_isSignal_c1.f, slices_IndexFunc_int_int_impl_isSignal_c1.f]
      exact Ev.bind h1 (Ev.now _)
    · rw [h2]; simp [sig]; omega
  · refine Ev.ff c (Ev.to (Ev.now _) ?_)
    simp [sig]; omega

theorem impl_areBits_c1_eq (x : Int) : impl_areBits_c1.f x = some (!decide (x = 1 ∨ x = -1)) := by
  unfold impl_areBits_c1.f
  by_cases c1 : x = 1
  · simp [c1]
  · by_cases c2 : x = -1 <;> simp [c1, c2]
theorem indexBits_l0 (l : List Int) (hl : l.length ≤ 140737488351232) : ∀ (t p : List Int), l = p ++ t → ∃ r, Ev (fun k => slices_IndexFunc_int_int_impl_areBits_c1.l0 k l (l.length : Int) (p.length : Int)) r ∧ (decide (r ≥ 0) = !(t.all fun x => decide (x = 1 ∨ x = -1)))
  | [], p, h => by
    refine ⟨-1, Ev.step (f := fun _ => some (-1)) ?_ (Ev.now _), by simp⟩
    intro k
    subst h
    simp [slices_IndexFunc_int_int_impl_areBits_c1.l0]
  | x :: t, p, h => by
    have e1 : (p.length : Int) < (l.length : Int) := by rw [h]; exact lt_mid p t x
    have e2 : rd l (p.length : Int) = x := by rw [h]; exact rd_mid p t x
    have e3 : wrap64 ((p.length : Int) + 1) = ((p ++ [x]).length : Int) := nx_mid p t x (h ▸ hl)
    by_cases c : decide (x = 1 ∨ x = -1) = true
    · obtain ⟨r, h1, h2⟩ := indexBits_l0 l hl t (p ++ [x]) (by simp [h])
      refine ⟨r, Ev.step (fun k => ?_) h1, by rw [h2, List.all_cons, c, Bool.true_and]⟩
      simp only [slices_IndexFunc_int_int_impl_areBits_c1.l0, if_pos e1, if_pos (Int.natCast_nonneg _), e2, e3, impl_areBits_c1_eq, c, Option.bind_some, Bool.not_true]
      rfl
    · have c := Bool.eq_false_iff.mpr c
      refine ⟨(p.length : Int), Ev.step (fun k => ?_) (Ev.now _), by rw [List.all_cons, c]; simp⟩
      simp only [slices_IndexFunc_int_int_impl_areBits_c1.l0, if_pos e1, if_pos (Int.natCast_nonneg _), e2, e3, impl_areBits_c1_eq, c, Option.bind_some, Bool.not_false]
      rfl
theorem impl_areBits_ev (l : List Int) (hl : l.length ≤ 140737488351232) : Ev (fun k => impl_areBits.f k l) (isBits l) := by
  simp only [impl_areBits.f]
  by_cases c : (l.length : Int) ≤ 200
  · obtain ⟨r, h1, h2⟩ := indexBits_l0 l hl l [] rfl
    refine Ev.tt c (Ev.bind (a := decide (r ≥ 0)) ?_ (Ev.to (Ev.now _) ?_))
    · simp only [slices_ContainsFunc_int_int_impl_areBits_c1.f, slices_IndexFunc_int_int_impl_areBits_c1.f]
      exact Ev.bind h1 (Ev.now _)
    · have : l.length ≤ 200 := by omega
      rw [h2]; simp [isBits, this]
  · refine Ev.ff c (Ev.to (Ev.now _) ?_)
    simp [isBits]; omega

theorem impl_bitOf_eq (x : Int) : impl_bitOf.f x = some (if x ≥ 0 then 1 else -1) := by
  unfold impl_bitOf.f
  split <;> rfl

theorem spec_l1Abs_eq (x : Int) (h : -1000000000000000000 ≤ x ∧ x ≤ 1000000000000000000) : spec_l1Abs.f x = some (x.natAbs : Int) := by
  unfold spec_l1Abs.f spec_l1Most.f
  rw [w64 (n := -x) (by omega) (by omega)]
  by_cases c : x > -x
  · rw [if_pos c]; simp; omega
  · rw [if_neg c]; simp; omega
theorem spec_wdPeak_l0 (l : List Int) (hl : l.length ≤ 140737488351232) (hs : ∀ x ∈ l, -1000000000000000000 ≤ x ∧ x ≤ 1000000000000000000) : ∀ (t p : List Int) (m : Nat), l = p ++ t → Ev (fun k => spec_wdPeak.l0 k (m : Int) l (l.length : Int) (p.length : Int)) ((peakM t m : Nat) : Int)
  | [], p, m, h => by
    refine Ev.step (f := fun _ => some (m : Int)) (fun k => ?_) (Ev.now _)
    subst h
    simp [spec_wdPeak.l0]
  | x :: t, p, m, h => by
    have e1 : (p.length : Int) < (l.length : Int) := by rw [h]; exact lt_mid p t x
    have e2 : rd l (p.length : Int) = x := by rw [h]; exact rd_mid p t x
    have e3 : wrap64 ((p.length : Int) + 1) = ((p ++ [x]).length : Int) := nx_mid p t x (h ▸ hl)
    have hx := hs x (by rw [h]; simp)
    have e4 : spec_l1Most.f (m : Int) (x.natAbs : Int) = some ((max m x.natAbs : Nat) : Int) := by
      unfold spec_l1Most.f
      by_cases c : (m : Int) > (x.natAbs : Int)
      · rw [if_pos c, Nat.max_eq_left (by omega)]
      · rw [if_neg c, Nat.max_eq_right (by omega)]
    refine Ev.step (fun k => ?_) (spec_wdPeak_l0 l hl hs t (p ++ [x]) (max m x.natAbs) (by simp [h]))
    simp only [spec_wdPeak.l0, if_pos e1, if_pos (Int.natCast_nonneg _), e2, e3, spec_l1Abs_eq x hx, Option.bind_some, e4]
theorem spec_wdPeak_ev (l : List Int) (hl : l.length ≤ 140737488351232) (hs : ∀ x ∈ l, -1000000000000000000 ≤ x ∧ x ≤ 1000000000000000000) : Ev (fun k => spec_wdPeak.f k l) ((peakM l 0 : Nat) : Int) := by
  have h := spec_wdPeak_l0 l hl hs l [] 0 rfl
  simpa [spec_wdPeak.f] using h

theorem impl_size_eq (x : Int) (h : -1000000000000000000 ≤ x ∧ x ≤ 1000000000000000000) : impl_size.f x = some (x.natAbs : Int) := by
  unfold impl_size.f mx
  rw [w64 (n := -x) (by omega) (by omega)]
  by_cases c : x < -x
  · rw [if_pos c]; simp; omega
  · rw [if_neg c]; simp; omega
theorem impl_peak_l0 (l : List Int) (hl : l.length ≤ 140737488351232) (hs : ∀ x ∈ l, -1000000000000000000 ≤ x ∧ x ≤ 1000000000000000000) : ∀ (t p : List Int) (m : Nat), l = p ++ t → Ev (fun k => impl_peak.l0 k (m : Int) l (l.length : Int) (p.length : Int)) ((peakM t m : Nat) : Int)
  | [], p, m, h => by
    refine Ev.step (f := fun _ => some (m : Int)) (fun k => ?_) (Ev.now _)
    subst h
    simp [impl_peak.l0]
  | x :: t, p, m, h => by
    have e1 : (p.length : Int) < (l.length : Int) := by rw [h]; exact lt_mid p t x
    have e2 : rd l (p.length : Int) = x := by rw [h]; exact rd_mid p t x
    have e3 : wrap64 ((p.length : Int) + 1) = ((p ++ [x]).length : Int) := nx_mid p t x (h ▸ hl)
    have hx := hs x (by rw [h]; simp)
    have e4 : mx (m : Int) (x.natAbs : Int) = ((max m x.natAbs : Nat) : Int) := by
      unfold mx
      by_cases c : (m : Int) < (x.natAbs : Int)
      · rw [if_pos c, Nat.max_eq_right (by omega)]
      · rw [if_neg c, Nat.max_eq_left (by omega)]
    refine Ev.step (fun k => ?_) (impl_peak_l0 l hl hs t (p ++ [x]) (max m x.natAbs) (by simp [h]))
    simp only [impl_peak.l0, if_pos e1, if_pos (Int.natCast_nonneg _), e2, e3, impl_size_eq x hx, Option.bind_some, e4]
theorem impl_peak_ev (l : List Int) (hl : l.length ≤ 140737488351232) (hs : ∀ x ∈ l, -1000000000000000000 ≤ x ∧ x ≤ 1000000000000000000) : Ev (fun k => impl_peak.f k l) ((peakM l 0 : Nat) : Int) := by
  have h := impl_peak_l0 l hl hs l [] 0 rfl
  simpa [impl_peak.f] using h

/-- What a cursor gives: a value with P, and at most c steps further. -/
def Dr {α : Type} (P : α → Prop) (c : Int) (a : Int) (g : Option (α × Int × Int)) : Prop := ∃ v a' sd, g = some (v, a', sd) ∧ a ≤ a' ∧ a' ≤ a + c ∧ P v
theorem u64_bd (n : Int) : 0 ≤ IntKind.u64.wrap n ∧ IntKind.u64.wrap n < 18446744073709551616 := by
  simp only [IntKind.wrap, IntKind.bits, IntKind.signed]
  simp
  omega
theorem u64_and255 (x : Int) (h0 : 0 ≤ x) (h1 : x < 18446744073709551616) : Go.bits .and .u64 x 255 = x % 256 :=
  bits_mask .u64 64 (by decide) (fun n h0 h1 => by
    simp only [IntKind.wrap, IntKind.bits, IntKind.signed]
    simp
    omega) 8 (by decide) x h0 h1
def Bytes (l : List Int) : Prop := l.length ≤ 1048576 ∧ ∀ x ∈ l, 0 ≤ x ∧ x ≤ 255
theorem next_ok {l : List Int} (hl : Bytes l) (a sd : Int) (h0 : 0 ≤ a) (h1 : a ≤ 1000000000000000) : Dr (fun v => 0 ≤ v ∧ v ≤ 255) 1 a (spec_l1Cur_next.f l a sd) := by
  have hw : wrap64 (a + 1) = a + 1 := w64 (by omega) (by omega)
  have hm : ∀ y : Int, 0 ≤ wrap64 (Go.bits .and .u64 (IntKind.u64.wrap y / 1099511627776) 255) ∧ wrap64 (Go.bits .and .u64 (IntKind.u64.wrap y / 1099511627776) 255) ≤ 255 := by
    intro y
    have hy := u64_bd y
    rw [u64_and255 _ (by omega) (by omega), w64 (n := IntKind.u64.wrap y / 1099511627776 % 256) (by omega) (by omega)]
    omega
  unfold spec_l1Cur_next.f
  by_cases c : a < (l.length : Int)
  · have hr : 0 ≤ rd l a ∧ rd l a ≤ 255 := by
      obtain ⟨n, rfl⟩ : ∃ n : Nat, a = (n : Int) := ⟨a.toNat, by omega⟩
      have hn : n < l.length := by omega
      rw [rd_getD, List.getD_eq_getElem?_getD, List.getElem?_eq_getElem hn]
      exact hl.2 _ (List.getElem_mem hn)
    rw [if_pos c, if_pos h0, hw, if_pos (by omega), w64 (n := rd l a) (by omega) (by omega)]
    exact ⟨_, _, _, rfl, by omega, by omega, hr⟩
  · rw [if_neg c, hw]
    by_cases d : a + 1 ≤ (l.length : Int)
    · omega
    · rw [if_neg d]
      exact ⟨_, _, _, rfl, by omega, by omega, hm _⟩

theorem pick_ok {l : List Int} (hl : Bytes l) (a sd n : Int) (h0 : 0 ≤ a) (h1 : a ≤ 100000000000000) (hn : n ≤ 1000000) : Dr (fun v => 0 ≤ v ∧ (v < n ∨ v = 0)) 2 a (spec_l1Cur_pick.f l a sd n) := by
  unfold spec_l1Cur_pick.f
  by_cases c : n ≤ 1
  · rw [if_pos c]
    exact ⟨_, _, _, rfl, by omega, by omega, by omega, .inr rfl⟩
  · rw [if_neg c]
    obtain ⟨v, a', sd', e, ha, hb, hv⟩ := next_ok hl a sd h0 (by omega)
    rw [e]
    simp only [Option.bind_some]
    have hn0 : ¬ n = 0 := by omega
    by_cases d : n > 200
    · rw [if_pos d]
      obtain ⟨v2, a2, sd2, e2, ha2, hb2, hv2⟩ := next_ok hl a' sd' (by omega) (by omega)
      rw [e2]
      simp only [Option.bind_some]
      rw [if_neg hn0, w64 (n := v * 256) (by omega) (by omega), w64 (n := v * 256 + v2) (by omega) (by omega), Int.tmod_eq_emod_of_nonneg (by omega)]
      have := Int.emod_nonneg (v * 256 + v2) hn0
      have := Int.emod_lt_of_pos (v * 256 + v2) (show 0 < n by omega)
      exact ⟨_, _, _, rfl, by omega, by omega, by omega, .inl (by omega)⟩
    · rw [if_neg d, if_neg hn0, Int.tmod_eq_emod_of_nonneg (by omega)]
      have := Int.emod_nonneg v hn0
      have := Int.emod_lt_of_pos v (show 0 < n by omega)
      exact ⟨_, _, _, rfl, by omega, by omega, by omega, .inl (by omega)⟩

theorem among_ok {l : List Int} (hl : Bytes l) (a sd : Int) (m : List Int) (h0 : 0 ≤ a) (h1 : a ≤ 100000000000000) (hm : 1 ≤ m.length) (hm2 : m.length ≤ 1000) : Dr (fun v => v ∈ m) 2 a (spec_l1Cur_among.f l a sd m) := by
  unfold spec_l1Cur_among.f
  obtain ⟨v, a', sd', e, ha, hb, hv, hv2⟩ := pick_ok hl a sd (m.length : Int) h0 h1 (by omega)
  rw [e]
  simp only [Option.bind_some]
  rw [if_pos hv, if_pos (by omega)]
  refine ⟨_, _, _, rfl, ha, hb, ?_⟩
  obtain ⟨n, rfl⟩ : ∃ n : Nat, v = (n : Int) := ⟨v.toNat, by omega⟩
  have hn : n < m.length := by omega
  rw [rd_getD, List.getD_eq_getElem?_getD, List.getElem?_eq_getElem hn]
  exact List.getElem_mem hn

theorem one_ok {l : List Int} (hl : Bytes l) (a sd n : Int) (h0 : 0 ≤ a) (h1 : a ≤ 100000000000000) (hn : n ≤ 1000000) : Dr (fun _ => True) 2 a (spec_l1Cur_one.f l a sd n) := by
  unfold spec_l1Cur_one.f
  obtain ⟨v, a', sd', e, ha, hb, hv, hv2⟩ := pick_ok hl a sd n h0 h1 hn
  rw [e]
  simp only [Option.bind_some]
  exact ⟨_, _, _, rfl, ha, hb, trivial⟩

/-- A number shifted: down, to the nearest one, towards 0. -/
def shM (x b mode : Int) : Int := if mode = 1 ∧ b ≤ 2 * (x % b) ∧ 0 < x % b then x / b + 1 else if mode = 2 ∧ x < 0 ∧ 0 < x % b then x / b + 1 else x / b
theorem div_uniq {x b q r : Int} (h : x = q * b + r) (h0 : 0 ≤ r) (h1 : r < b) : x / b = q := by
  have hb : 0 < b := by omega
  exact ((Int.ediv_emod_unique hb).2 ⟨by rw [h, Int.mul_comm]; omega, h0, h1⟩).1
theorem pow2_pos (s : Nat) : (0 : Int) < 2 ^ s := Int.pow_pos (by decide)
theorem pow2_le {s : Nat} (h : s ≤ 20) : (2 : Int) ^ s ≤ 1048576 := by
  have h1 : (2 : Nat) ^ s ≤ 2 ^ 20 := Nat.pow_le_pow_right (by decide) h
  have h3 : (2 : Int) ^ s = (((2 : Nat) ^ s : Nat) : Int) := by simp
  rw [h3]
  have h2 : (2 : Nat) ^ 20 = 1048576 := by decide
  omega
theorem shl_one {s : Nat} (h : s ≤ 20) : shl .i64 1 (s : Int) = 2 ^ s := by
  unfold shl
  have h1 : min ((s : Int)).toNat IntKind.i64.bits = s := by
    simp [IntKind.bits]; omega
  rw [h1, Int.one_mul, IntKind.wrap_i64]
  have := pow2_pos s
  have := pow2_le h
  omega
theorem shl_mul {s : Nat} (h : s ≤ 20) (y : Int) (h1 : -9223372036854775808 ≤ y * 2 ^ s) (h2 : y * 2 ^ s ≤ 9223372036854775807) : shl .i64 y (s : Int) = y * 2 ^ s := by
  unfold shl
  have e : min ((s : Int)).toNat IntKind.i64.bits = s := by
    simp [IntKind.bits]; omega
  rw [e, IntKind.wrap_i64]
  omega
theorem shr_div {s : Nat} (h : s ≤ 20) (y : Int) : shr .i64 y (s : Int) = y / 2 ^ s := by
  unfold shr
  have e : min ((s : Int)).toNat IntKind.i64.bits = s := by
    simp [IntKind.bits]; omega
  rw [e]
theorem mod_eq (x b : Int) : x = (x / b) * b + x % b := by
  have := Int.emod_add_mul_ediv x b
  rw [Int.mul_comm] at this
  omega

def sm : List Int → Int
  | [] => 0
  | x :: t => x + sm t
theorem sm_app : ∀ (p t : List Int), sm (p ++ t) = sm p + sm t
  | [], t => by simp [sm]
  | x :: p, t => by
    rw [List.cons_append, sm, sm, sm_app p t]
    omega
theorem sm_bd (M : Int) (hM : 0 ≤ M) : ∀ l : List Int, (∀ x ∈ l, -M ≤ x ∧ x ≤ M) → -(l.length * M) ≤ sm l ∧ sm l ≤ l.length * M
  | [], _ => by simp [sm]
  | x :: t, h => by
    have h1 := h x (by simp)
    have h2 := sm_bd M hM t (fun y hy => h y (by simp [hy]))
    simp only [sm, List.length_cons, Int.natCast_add, Int.add_mul]
    omega

theorem impl_sum_l0 (l : List Int) (hl : l.length ≤ 1000000) (hb : ∀ x ∈ l, -1000000 ≤ x ∧ x ≤ 1000000) : ∀ (t p : List Int), l = p ++ t → Ev (fun k => impl_sum.l0 k (sm p) l (l.length : Int) (p.length : Int)) (sm l)
  | [], p, h => by
    refine Ev.to (Ev.step (f := fun _ => some (sm p)) (fun k => ?_) (Ev.now _)) (by rw [h]; simp)
    subst h
    simp [impl_sum.l0]
  | x :: t, p, h => by
    have e1 : (p.length : Int) < (l.length : Int) := by rw [h]; exact lt_mid p t x
    have e2 : rd l (p.length : Int) = x := by rw [h]; exact rd_mid p t x
    have e3 : wrap64 ((p.length : Int) + 1) = ((p ++ [x]).length : Int) := nx_mid p t x (by rw [← h]; omega)
    have hx := hb x (by rw [h]; simp)
    have hp := sm_bd 1000000 (by omega) p (fun y hy => hb y (by rw [h]; simp [hy]))
    have hpl : p.length ≤ 1000000 := by rw [h] at hl; simp at hl; omega
    have e4 : wrap64 (sm p + x) = sm (p ++ [x]) := by
      rw [w64 (n := sm p + x) (by omega) (by omega), sm_app]
      simp [sm]
    refine Ev.step (fun k => ?_) (impl_sum_l0 l hl hb t (p ++ [x]) (by simp [h]))
    simp only [impl_sum.l0, if_pos e1, if_pos (Int.natCast_nonneg _), e2, e3, e4]
theorem impl_sum_ev (l : List Int) (hl : l.length ≤ 1000000) (hb : ∀ x ∈ l, -1000000 ≤ x ∧ x ≤ 1000000) : Ev (fun k => impl_sum.f k l) (sm l) := by
  have h := impl_sum_l0 l hl hb l [] rfl
  simpa [impl_sum.f, sm] using h

theorem spec_wdSum_l0 (l : List Int) (hl : l.length ≤ 1000000) (hb : ∀ x ∈ l, -1000000 ≤ x ∧ x ≤ 1000000) : ∀ (t p : List Int), l = p ++ t → Ev (fun k => spec_wdSum.l0 k (sm p) l (l.length : Int) (p.length : Int)) (sm l)
  | [], p, h => by
    refine Ev.to (Ev.step (f := fun _ => some (sm p)) (fun k => ?_) (Ev.now _)) (by rw [h]; simp)
    subst h
    simp [spec_wdSum.l0]
  | x :: t, p, h => by
    have e1 : (p.length : Int) < (l.length : Int) := by rw [h]; exact lt_mid p t x
    have e2 : rd l (p.length : Int) = x := by rw [h]; exact rd_mid p t x
    have e3 : wrap64 ((p.length : Int) + 1) = ((p ++ [x]).length : Int) := nx_mid p t x (by rw [← h]; omega)
    have hx := hb x (by rw [h]; simp)
    have hp := sm_bd 1000000 (by omega) p (fun y hy => hb y (by rw [h]; simp [hy]))
    have hpl : p.length ≤ 1000000 := by rw [h] at hl; simp at hl; omega
    have e4 : wrap64 (sm p + x) = sm (p ++ [x]) := by
      rw [w64 (n := sm p + x) (by omega) (by omega), sm_app]
      simp [sm]
    refine Ev.step (fun k => ?_) (spec_wdSum_l0 l hl hb t (p ++ [x]) (by simp [h]))
    simp only [spec_wdSum.l0, if_pos e1, if_pos (Int.natCast_nonneg _), e2, e3, e4]
theorem spec_wdSum_ev (l : List Int) (hl : l.length ≤ 1000000) (hb : ∀ x ∈ l, -1000000 ≤ x ∧ x ≤ 1000000) : Ev (fun k => spec_wdSum.f k l) (sm l) := by
  have h := spec_wdSum_l0 l hl hb l [] rfl
  simpa [spec_wdSum.f, sm] using h

theorem signal_l0 {l : List Int} (hl : Bytes l) (sz : Int) (hs : 1 ≤ sz ∧ sz ≤ 100000) : ∀ (n : Nat) (q : List Int) (a sd : Int), q.length + n ≤ 100000 → 0 ≤ a → a + 10 * n ≤ 100000000000 → ∃ s a' sd', Ev (fun k => spec_l1Cur_signal.l0 k sz q (n : Int) l a sd) (s, a', sd') ∧ s.length ≤ 100001 ∧ a ≤ a' ∧ a' ≤ a + 10 * n + 10
  | 0, q, a, sd, hq, h0, h1 => by
    obtain ⟨u, a1, sd1, e1, ha1, hb1, -⟩ := pick_ok hl a sd 16 h0 (by omega) (by omega)
    by_cases c : u = 0
    · obtain ⟨v, a2, sd2, e2, ha2, hb2, -⟩ := among_ok hl a1 sd1 [100000, (-100000), 100001, 4611686018427387904] (by omega) (by omega) (by simp) (by simp)
      refine ⟨q ++ [v], a2, sd2, Ev.step (f := fun _ => some (q ++ [v], a2, sd2)) (fun k => ?_) (Ev.now _), by simp; omega, by omega, by omega⟩
      simp only [spec_l1Cur_signal.l0, e1, e2, Option.bind_some, if_pos c]
      rw [if_neg (by omega), if_pos (by omega)]
    · by_cases d : u = 1
      · obtain ⟨v, a2, sd2, e2, ha2, hb2, hv, hv2⟩ := pick_ok hl a1 sd1 2 (by omega) (by omega) (by omega)
        have e3 : wrap64 (64 + v) = 64 + v := w64 (by omega) (by omega)
        refine ⟨List.replicate (64 + v).toNat 0, a2, sd2, Ev.step (f := fun _ => some (List.replicate (64 + v).toNat 0, a2, sd2)) (fun k => ?_) (Ev.now _), by simp; omega, by omega, by omega⟩
        simp only [spec_l1Cur_signal.l0, e1, e2, Option.bind_some, if_neg c, if_pos d, e3]
        rw [if_neg (by omega), if_pos (by omega), if_pos (by omega)]
      · refine ⟨q, a1, sd1, Ev.step (f := fun _ => some (q, a1, sd1)) (fun k => ?_) (Ev.now _), by omega, by omega, by omega⟩
        simp only [spec_l1Cur_signal.l0, e1, Option.bind_some, if_neg c, if_neg d]
        rw [if_neg (by omega)]
  | n + 1, q, a, sd, hq, h0, h1 => by
    obtain ⟨u, a1, sd1, e1, ha1, hb1, -⟩ := one_ok hl a sd 4 h0 (by omega) (by omega)
    have e3 : wrap64 (((n + 1 : Nat) : Int) - 1) = (n : Int) := by
      rw [w64 (n := ((n + 1 : Nat) : Int) - 1) (by omega) (by omega)]
      omega
    have hn : ((n + 1 : Nat) : Int) > 0 := by omega
    have hql : q.length < 17592186044416 := by omega
    by_cases c : u = true
    · obtain ⟨s, a', sd', h, hs1, ha, hb⟩ := signal_l0 hl sz hs n (q ++ [0]) a1 sd1 (by simp; omega) (by omega) (by omega)
      refine ⟨s, a', sd', Ev.step (fun k => ?_) h, hs1, by omega, by omega⟩
      simp only [spec_l1Cur_signal.l0, e1, Option.bind_some, if_pos c, if_pos hn, if_pos hql, e3]
    · have e4 : wrap64 (wrap64 (2 * sz) + 1) = 2 * sz + 1 := by
        rw [w64 (n := 2 * sz) (by omega) (by omega), w64 (n := 2 * sz + 1) (by omega) (by omega)]
      obtain ⟨v, a2, sd2, e2, ha2, hb2, -⟩ := pick_ok hl a1 sd1 (2 * sz + 1) (by omega) (by omega) (by omega)
      obtain ⟨s, a', sd', h, hs1, ha, hb⟩ := signal_l0 hl sz hs n (q ++ [wrap64 (v - sz)]) a2 sd2 (by simp; omega) (by omega) (by omega)
      refine ⟨s, a', sd', Ev.step (fun k => ?_) h, hs1, by omega, by omega⟩
      simp only [spec_l1Cur_signal.l0, e1, Option.bind_some, if_neg c, if_pos hn, e4, e2, if_pos hql, e3]
theorem signal_ok {l : List Int} (hl : Bytes l) (a sd most sz : Int) (h0 : 0 ≤ a) (h1 : a ≤ 1000000000) (hm : 0 ≤ most ∧ most ≤ 10000) (hs : 1 ≤ sz ∧ sz ≤ 100000) : ∃ s a' sd', Ev (fun k => spec_l1Cur_signal.f k l a sd most sz) (s, a', sd') ∧ s.length ≤ 100001 ∧ a ≤ a' ∧ a' ≤ a + 1000000 := by
  obtain ⟨u, a1, sd1, e1, ha1, hb1, hu, hu2⟩ := pick_ok hl a sd (most + 1) h0 (by omega) (by omega)
  obtain ⟨n, rfl⟩ : ∃ n : Nat, u = (n : Int) := ⟨u.toNat, by omega⟩
  obtain ⟨s, a', sd', h, hs1, ha, hb⟩ := signal_l0 hl sz hs n [] a1 sd1 (by simp; omega) (by omega) (by omega)
  refine ⟨s, a', sd', ?_, hs1, by omega, by omega⟩
  simp only [spec_l1Cur_signal.f]
  rw [w64 (n := most + 1) (by omega) (by omega)]
  exact Ev.dbind e1 h

theorem scaled_ok {l : List Int} (hl : Bytes l) : ∃ m s, Ev (fun k => spec_DrawIsScaled.f k l) (m, s) ∧ s.length ≤ 100001 := by
  have least : ∀ x : Int, spec_l1Least.f 20 (if 1 > x then 1 else x) = some (if 20 < (if 1 > x then 1 else x) then 20 else (if 1 > x then 1 else x)) := by
    intro x
    unfold spec_l1Least.f
    by_cases g : 20 < (if 1 > x then 1 else x)
    · rw [if_pos g, if_pos g]
    · rw [if_neg g, if_neg g]
  have most : ∀ x : Int, spec_l1Most.f 1 x = some (if 1 > x then 1 else x) := by
    intro x
    unfold spec_l1Most.f
    split <;> rfl
  have inr : ∀ x : Int, 1 ≤ (if 20 < (if 1 > x then 1 else x) then 20 else (if 1 > x then 1 else x)) ∧ (if 20 < (if 1 > x then 1 else x) then 20 else (if 1 > x then 1 else x)) ≤ 100000 := by
    intro x
    repeat' split
    all_goals omega
  obtain ⟨u, a1, sd1, e1, ha1, hb1, hu⟩ := pick_ok hl 0 0 20 (by omega) (by omega) (by omega)
  obtain ⟨v, a2, sd2, e2, ha2, hb2, -⟩ := one_ok hl a1 sd1 12 (by omega) (by omega) (by omega)
  simp only [spec_DrawIsScaled.f, spec_l1Cur_scaled.f, e1, e2, Option.bind_some]
  by_cases c : v = true
  · obtain ⟨z, a3, sd3, e3, ha3, hb3, -⟩ := among_ok hl a2 sd2 [0, 1, 1000, 1001, (-1)] (by omega) (by omega) (by simp) (by simp)
    obtain ⟨s, a', sd', h, hs1, ha, hb⟩ := signal_ok hl a3 sd3 20 (if 20 < (if 1 > z then 1 else z) then 20 else (if 1 > z then 1 else z)) (by omega) (by omega) (by omega) (inr z)
    refine ⟨z, s, Ev.bind (a := (z, s, a', sd')) (Ev.tt c ?_) (Ev.now _), hs1⟩
    simp only [e3, Option.bind_some, most, least]
    exact Ev.bind h (Ev.now _)
  · obtain ⟨s, a', sd', h, hs1, ha, hb⟩ := signal_ok hl a2 sd2 20 (if 20 < (if 1 > wrap64 (1 + u) then 1 else wrap64 (1 + u)) then 20 else (if 1 > wrap64 (1 + u) then 1 else wrap64 (1 + u))) (by omega) (by omega) (by omega) (inr _)
    refine ⟨wrap64 (1 + u), s, Ev.bind (a := (wrap64 (1 + u), s, a', sd')) (Ev.ff c ?_) (Ev.now _), hs1⟩
    simp only [most, Option.bind_some, least]
    exact Ev.bind h (Ev.now _)

def scaledM (m : Int) (s : List Int) : Bool := ((decide (1 ≤ m) && decide (m ≤ 1000)) && sig s) && decide ((peakM s 0 : Int) ≤ m)
theorem peakM_ge : ∀ (l : List Int) (m : Nat), m ≤ peakM l m ∧ ∀ x ∈ l, x.natAbs ≤ peakM l m
  | [], m => ⟨Nat.le_refl _, fun x h => by simp at h⟩
  | y :: t, m => by
    have h := peakM_ge t (max m y.natAbs)
    refine ⟨by rw [peakM]; omega, fun x hx => ?_⟩
    rw [peakM]
    rcases List.mem_cons.1 hx with rfl | hx
    · omega
    · exact h.2 x hx
theorem scaledM_iff {m : Int} {s : List Int} : scaledM m s = true ↔ (1 ≤ m ∧ m ≤ 1000) ∧ sig s = true ∧ (peakM s 0 : Int) ≤ m := by
  simp [scaledM, and_assoc]
theorem scaled_mem {m : Int} {s : List Int} (h : scaledM m s = true) : ∀ x ∈ s, -m ≤ x ∧ x ≤ m := by
  intro x hx
  have h1 := (scaledM_iff.1 h).2.2
  have h2 := (peakM_ge s 0).2 x hx
  omega

theorem impl_isScaled_ev (m : Int) (s : List Int) (hs : s.length ≤ 1000000) : Ev (fun k => impl_isScaled.f k m s) (scaledM m s) := by
  simp only [impl_isScaled.f]
  refine Ev.dbind (impl_in_eq _ _ _) ?_
  by_cases c : (decide (1 ≤ m) && decide (m ≤ 1000)) = true
  · refine Ev.tt c (Ev.bind (impl_isSignal_ev s (by omega)) ?_)
    by_cases d : sig s = true
    · refine Ev.tt d (Ev.bind (impl_peak_ev s (by omega) (fun x hx => by have := sig_mem d x hx; omega)) (Ev.to (Ev.now _) ?_))
      rw [scaledM, c, d]
      rfl
    · refine Ev.ff d (Ev.to (Ev.now _) ?_)
      rw [scaledM, Bool.eq_false_iff.mpr d]
      simp
  · refine Ev.ff c (Ev.to (Ev.now _) ?_)
    rw [scaledM, Bool.eq_false_iff.mpr c]
    simp

theorem spec_dmScaled_ev (m : Int) (s : List Int) (hs : s.length ≤ 1000000) : Ev (fun k => spec_dmScaled.f k m s) (scaledM m s) := by
  simp only [spec_dmScaled.f, spec_dmScale.f, spec_l1In_eq, Option.bind_some]
  by_cases c : (decide (1 ≤ m) && decide (m ≤ 1000)) = true
  · refine Ev.tt c (Ev.bind (spec_wdSignal_ev s (by omega)) ?_)
    by_cases d : sig s = true
    · refine Ev.tt d (Ev.bind (spec_wdPeak_ev s (by omega) (fun x hx => by have := sig_mem d x hx; omega)) (Ev.to (Ev.now _) ?_))
      rw [scaledM, c, d]
      rfl
    · refine Ev.ff d (Ev.to (Ev.now _) ?_)
      rw [scaledM, Bool.eq_false_iff.mpr d]
      simp
  · refine Ev.ff c (Ev.to (Ev.now _) ?_)
    rw [scaledM, Bool.eq_false_iff.mpr c]
    simp

def bz (x : Int) : Int := if 0 ≤ x then 1 else -1
def mdl (m : Int) : List Int → Int → List (Int × Int)
  | [], _ => []
  | x :: t, st => (bz (st + x), st + x - m * bz (st + x)) :: mdl m t (st + x - m * bz (st + x))
theorem mdl_length (m : Int) : ∀ (l : List Int) (st : Int), (mdl m l st).length = l.length
  | [], _ => rfl
  | x :: t, st => by simp [mdl, mdl_length m t]
theorem bz_cases (x : Int) : (0 ≤ x ∧ bz x = 1) ∨ (x < 0 ∧ bz x = -1) := by
  unfold bz
  split
  · left; exact ⟨‹_›, rfl⟩
  · right; exact ⟨by omega, rfl⟩
theorem mul_bz (m x : Int) : (0 ≤ x ∧ bz x = 1 ∧ m * bz x = m) ∨ (x < 0 ∧ bz x = -1 ∧ m * bz x = -m) := by
  rcases bz_cases x with ⟨h, e⟩ | ⟨h, e⟩
  · left; exact ⟨h, e, by rw [e]; omega⟩
  · right; exact ⟨h, e, by rw [e]; omega⟩
theorem mdl_bits (m : Int) : ∀ (l : List Int) (st : Int), ∀ b ∈ (mdl m l st).map (·.1), b = 1 ∨ b = -1
  | [], _, b, h => by simp [mdl] at h
  | x :: t, st, b, h => by
    simp only [mdl, List.map_cons, List.mem_cons] at h
    rcases h with rfl | h
    · rcases bz_cases (st + x) with ⟨_, e⟩ | ⟨_, e⟩
      · left; exact e
      · right; exact e
    · exact mdl_bits m t _ b h
theorem snoc_app {α β : Type} (q : List β) (f : α → β) (a : α) (t : List α) : q ++ [f a] ++ t.map f = q ++ (a :: t).map f := by simp

theorem impl_bitOf_bz (x : Int) : impl_bitOf.f x = some (bz x) := by
  unfold impl_bitOf.f bz
  by_cases c : 0 ≤ x
  · rw [if_pos c, if_pos c]
  · rw [if_neg c, if_neg c]
theorem impl_modulate_l0 (m : Int) (hm : 1 ≤ m ∧ m ≤ 1000) (l : List Int) (hl : l.length ≤ 1000000) (hb : ∀ x ∈ l, -m ≤ x ∧ x ≤ m) : ∀ (t p : List Int) (q r : List Int) (st : Int), l = p ++ t → q.length = p.length → r.length = p.length → -m ≤ st → st ≤ m - 1 →
    Ev (fun k => impl_modulate.l0 k m q r st l (l.length : Int) (p.length : Int)) (q ++ (mdl m t st).map (·.1), r ++ (mdl m t st).map (·.2))
  | [], p, q, r, st, h, hq, hr, h0, h1 => by
    refine Ev.to (Ev.step (f := fun _ => some (q, r)) (fun k => ?_) (Ev.now _)) (by simp [mdl])
    subst h
    simp [impl_modulate.l0]
  | x :: t, p, q, r, st, h, hq, hr, h0, h1 => by
    have e1 : (p.length : Int) < (l.length : Int) := by rw [h]; exact lt_mid p t x
    have e2 : rd l (p.length : Int) = x := by rw [h]; exact rd_mid p t x
    have e3 : wrap64 ((p.length : Int) + 1) = ((p ++ [x]).length : Int) := nx_mid p t x (by rw [← h]; omega)
    have hx := hb x (by rw [h]; simp)
    have hpl : p.length ≤ 1000000 := by rw [h] at hl; simp at hl; omega
    have e4 : wrap64 (st + x) = st + x := w64 (by omega) (by omega)
    have hc := mul_bz m (st + x)
    have e5 : wrap64 (m * bz (st + x)) = m * bz (st + x) := w64 (by omega) (by omega)
    have e6 : wrap64 (st + x - m * bz (st + x)) = st + x - m * bz (st + x) := w64 (by omega) (by omega)
    refine Ev.to (Ev.step (fun k => ?_) (impl_modulate_l0 m hm l hl hb t (p ++ [x]) (q ++ [bz (st + x)]) (r ++ [st + x - m * bz (st + x)]) (st + x - m * bz (st + x)) (by simp [h]) (by simp [hq]) (by simp [hr]) (by omega) (by omega))) (by simp [mdl])
    simp only [impl_modulate.l0, if_pos e1, if_pos (Int.natCast_nonneg _), e2, e3, e4, impl_bitOf_bz, Option.bind_some, e5, e6]
    rw [if_pos (by omega), if_pos (by omega)]
theorem impl_modulate_ev (m : Int) (l : List Int) (h : scaledM m l = true) : Ev (fun k => impl_modulate.f k m l) ((mdl m l 0).map (·.1), (mdl m l 0).map (·.2)) := by
  have h' := scaledM_iff.1 h
  have := sig_len h'.2.1
  have := impl_modulate_l0 m h'.1 l (by omega) (scaled_mem h) l [] [] [] 0 rfl rfl rfl (by omega) (by omega)
  simpa [impl_modulate.f] using this

theorem spec_dmOne_l0 (m : Int) (hm : 1 ≤ m ∧ m ≤ 1000) (l : List Int) (hl : l.length ≤ 1000000) (hb : ∀ x ∈ l, -m ≤ x ∧ x ≤ m) : ∀ (t p : List Int) (q r : List Int) (st : Int), l = p ++ t → q.length = p.length → r.length = p.length → -m ≤ st → st ≤ m - 1 →
    Ev (fun k => spec_dmOne.l0 k m q r st l (l.length : Int) (p.length : Int)) (q ++ (mdl m t st).map (·.1), r ++ (mdl m t st).map (·.2))
  | [], p, q, r, st, h, hq, hr, h0, h1 => by
    refine Ev.to (Ev.step (f := fun _ => some (q, r)) (fun k => ?_) (Ev.now _)) (by simp [mdl])
    subst h
    simp [spec_dmOne.l0]
  | x :: t, p, q, r, st, h, hq, hr, h0, h1 => by
    have e1 : (p.length : Int) < (l.length : Int) := by rw [h]; exact lt_mid p t x
    have e2 : rd l (p.length : Int) = x := by rw [h]; exact rd_mid p t x
    have e3 : wrap64 ((p.length : Int) + 1) = ((p ++ [x]).length : Int) := nx_mid p t x (by rw [← h]; omega)
    have hx := hb x (by rw [h]; simp)
    have hpl : p.length ≤ 1000000 := by rw [h] at hl; simp at hl; omega
    have e4 : wrap64 (st + x) = st + x := w64 (by omega) (by omega)
    have e7 : wrap64 m = m := w64 (by omega) (by omega)
    have e8 : wrap64 (-m) = -m := w64 (by omega) (by omega)
    rcases mul_bz m (st + x) with ⟨hc, eb, em⟩ | ⟨hc, eb, em⟩
    · have e6 : wrap64 (st + x - m) = st + x - m := w64 (by omega) (by omega)
      refine Ev.to (Ev.step (fun k => ?_) (spec_dmOne_l0 m hm l hl hb t (p ++ [x]) (q ++ [1]) (r ++ [st + x - m]) (st + x - m) (by simp [h]) (by simp [hq]) (by simp [hr]) (by omega) (by omega))) (by simp [mdl, em, eb])
      simp only [spec_dmOne.l0, if_pos e1, if_pos (Int.natCast_nonneg _), e2, e3, e4, e7, e6]
      rw [if_pos (by omega), if_pos (by omega), if_pos (by omega)]
    · have e6 : wrap64 (st + x - -m) = st + x - -m := w64 (by omega) (by omega)
      refine Ev.to (Ev.step (fun k => ?_) (spec_dmOne_l0 m hm l hl hb t (p ++ [x]) (q ++ [-1]) (r ++ [st + x - -m]) (st + x - -m) (by simp [h]) (by simp [hq]) (by simp [hr]) (by omega) (by omega))) (by simp [mdl, em, eb])
      simp only [spec_dmOne.l0, if_pos e1, if_pos (Int.natCast_nonneg _), e2, e3, e4, e8, e6]
      rw [if_neg (by omega), if_pos (by omega), if_pos (by omega)]
theorem spec_dmOne_ev (m : Int) (l : List Int) (h : scaledM m l = true) : Ev (fun k => spec_dmOne.f k m l) ((mdl m l 0).map (·.1), (mdl m l 0).map (·.2)) := by
  have h' := scaledM_iff.1 h
  have := sig_len h'.2.1
  have := spec_dmOne_l0 m h'.1 l (by omega) (scaled_mem h) l [] [] [] 0 rfl rfl rfl (by omega) (by omega)
  simpa [spec_dmOne.f] using this

def mdl2 (m : Int) : List Int → Int → Int → List (Int × List Int)
  | [], _, _ => []
  | x :: t, a, b => (bz b, [a + (x - m * bz b), b + (a + (x - m * bz b) - m * bz b)]) :: mdl2 m t (a + (x - m * bz b)) (b + (a + (x - m * bz b) - m * bz b))
theorem mdl2_length (m : Int) : ∀ (l : List Int) (a b : Int), (mdl2 m l a b).length = l.length
  | [], _, _ => rfl
  | x :: t, a, b => by simp [mdl2, mdl2_length m t]
theorem mdl2_rows (m : Int) : ∀ (l : List Int) (a b : Int), ∀ r ∈ (mdl2 m l a b).map (·.2), r.length ≤ 1000000
  | [], _, _, r, h => by simp [mdl2] at h
  | x :: t, a, b, r, h => by
    simp only [mdl2, List.map_cons, List.mem_cons] at h
    rcases h with rfl | h
    · simp
    · exact mdl2_rows m t _ _ r h

theorem impl_modulateTwo_l0 (m : Int) (hm : 1 ≤ m ∧ m ≤ 1000) (l : List Int) (hl : l.length ≤ 64) (hb : ∀ x ∈ l, -m ≤ x ∧ x ≤ m) : ∀ (t p : List Int) (q : List Int) (r : List (List Int)) (a b : Int), l = p ++ t → q.length = p.length → r.length = p.length → -(2000 * p.length) ≤ a → a ≤ 2000 * p.length → -(1000000 * p.length) ≤ b → b ≤ 1000000 * p.length →
    Ev (fun k => impl_modulateTwo.l0 k m q r a b l (l.length : Int) (p.length : Int)) (q ++ (mdl2 m t a b).map (·.1), r ++ (mdl2 m t a b).map (·.2))
  | [], p, q, r, a, b, h, hq, hr, h0, h1, h2, h3 => by
    refine Ev.to (Ev.step (f := fun _ => some (q, r)) (fun k => ?_) (Ev.now _)) (by simp [mdl2])
    subst h
    simp [impl_modulateTwo.l0]
  | x :: t, p, q, r, a, b, h, hq, hr, h0, h1, h2, h3 => by
    have e1 : (p.length : Int) < (l.length : Int) := by rw [h]; exact lt_mid p t x
    have e2 : rd l (p.length : Int) = x := by rw [h]; exact rd_mid p t x
    have e3 : wrap64 ((p.length : Int) + 1) = ((p ++ [x]).length : Int) := nx_mid p t x (by rw [← h]; omega)
    have hx := hb x (by rw [h]; simp)
    have hpl : p.length + 1 ≤ 64 := by rw [h] at hl; simp at hl; omega
    have hl1 : ((p ++ [x]).length : Int) = (p.length : Int) + 1 := by simp
    have hc := mul_bz m b
    have e5 : wrap64 (m * bz b) = m * bz b := w64 (by omega) (by omega)
    have e6 : wrap64 (x - m * bz b) = x - m * bz b := w64 (by omega) (by omega)
    have e7 : wrap64 (a + (x - m * bz b)) = a + (x - m * bz b) := w64 (by omega) (by omega)
    have e8 : wrap64 (a + (x - m * bz b) - m * bz b) = a + (x - m * bz b) - m * bz b := w64 (by omega) (by omega)
    have e9 : wrap64 (b + (a + (x - m * bz b) - m * bz b)) = b + (a + (x - m * bz b) - m * bz b) := w64 (by omega) (by omega)
    refine Ev.to (Ev.step (fun k => ?_) (impl_modulateTwo_l0 m hm l hl hb t (p ++ [x]) (q ++ [bz b]) (r ++ [[a + (x - m * bz b), b + (a + (x - m * bz b) - m * bz b)]]) (a + (x - m * bz b)) (b + (a + (x - m * bz b) - m * bz b)) (by simp [h]) (by simp [hq]) (by simp [hr]) (by omega) (by omega) (by omega) (by omega))) (by simp [mdl2])
    simp only [impl_modulateTwo.l0, if_pos e1, if_pos (Int.natCast_nonneg _), e2, e3, impl_bitOf_bz, Option.bind_some, e5, e6, e7, e8, e9]
    rw [if_pos (by omega), if_pos (by omega)]
theorem impl_modulateTwo_ev (m : Int) (l : List Int) (h : scaledM m l = true) : Ev (fun k => impl_modulateTwo.f k m l) ((mdl2 m l 0 0).map (·.1), (mdl2 m l 0 0).map (·.2)) := by
  have h' := scaledM_iff.1 h
  have hl := sig_len h'.2.1
  have := impl_modulateTwo_l0 m h'.1 l hl (scaled_mem h) l [] [] [] 0 0 rfl rfl rfl (by simp) (by simp) (by simp) (by simp)
  simpa [impl_modulateTwo.f] using this

theorem spec_dmTwo_l0 (m : Int) (hm : 1 ≤ m ∧ m ≤ 1000) (l : List Int) (hl : l.length ≤ 64) (hb : ∀ x ∈ l, -m ≤ x ∧ x ≤ m) : ∀ (t p : List Int) (q : List Int) (r : List (List Int)) (a b : Int), l = p ++ t → q.length = p.length → r.length = p.length → -(2000 * p.length) ≤ a → a ≤ 2000 * p.length → -(1000000 * p.length) ≤ b → b ≤ 1000000 * p.length →
    Ev (fun k => spec_dmTwo.l0 k m q r a b l (l.length : Int) (p.length : Int)) (q ++ (mdl2 m t a b).map (·.1), r ++ (mdl2 m t a b).map (·.2))
  | [], p, q, r, a, b, h, hq, hr, h0, h1, h2, h3 => by
    refine Ev.to (Ev.step (f := fun _ => some (q, r)) (fun k => ?_) (Ev.now _)) (by simp [mdl2])
    subst h
    simp [spec_dmTwo.l0]
  | x :: t, p, q, r, a, b, h, hq, hr, h0, h1, h2, h3 => by
    have e1 : (p.length : Int) < (l.length : Int) := by rw [h]; exact lt_mid p t x
    have e2 : rd l (p.length : Int) = x := by rw [h]; exact rd_mid p t x
    have e3 : wrap64 ((p.length : Int) + 1) = ((p ++ [x]).length : Int) := nx_mid p t x (by rw [← h]; omega)
    have hx := hb x (by rw [h]; simp)
    have hpl : p.length + 1 ≤ 64 := by rw [h] at hl; simp at hl; omega
    have hl1 : ((p ++ [x]).length : Int) = (p.length : Int) + 1 := by simp
    have f7 : wrap64 m = m := w64 (by omega) (by omega)
    have f8 : wrap64 (-m) = -m := w64 (by omega) (by omega)
    rcases mul_bz m b with ⟨hc, eb, em⟩ | ⟨hc, eb, em⟩
    · have e6 : wrap64 (x - m) = x - m := w64 (by omega) (by omega)
      have e7 : wrap64 (a + (x - m)) = a + (x - m) := w64 (by omega) (by omega)
      have e8 : wrap64 (a + (x - m) - m) = a + (x - m) - m := w64 (by omega) (by omega)
      have e9 : wrap64 (b + (a + (x - m) - m)) = b + (a + (x - m) - m) := w64 (by omega) (by omega)
      refine Ev.to (Ev.step (fun k => ?_) (spec_dmTwo_l0 m hm l hl hb t (p ++ [x]) (q ++ [1]) (r ++ [[a + (x - m), b + (a + (x - m) - m)]]) (a + (x - m)) (b + (a + (x - m) - m)) (by simp [h]) (by simp [hq]) (by simp [hr]) (by omega) (by omega) (by omega) (by omega))) (by simp [mdl2, em, eb])
      simp only [spec_dmTwo.l0, if_pos e1, if_pos (Int.natCast_nonneg _), e2, e3, f7, e6, e7, e8, e9]
      rw [if_pos (by omega), if_pos (by omega), if_pos (by omega)]
    · have e6 : wrap64 (x - -m) = x - -m := w64 (by omega) (by omega)
      have e7 : wrap64 (a + (x - -m)) = a + (x - -m) := w64 (by omega) (by omega)
      have e8 : wrap64 (a + (x - -m) - -m) = a + (x - -m) - -m := w64 (by omega) (by omega)
      have e9 : wrap64 (b + (a + (x - -m) - -m)) = b + (a + (x - -m) - -m) := w64 (by omega) (by omega)
      refine Ev.to (Ev.step (fun k => ?_) (spec_dmTwo_l0 m hm l hl hb t (p ++ [x]) (q ++ [-1]) (r ++ [[a + (x - -m), b + (a + (x - -m) - -m)]]) (a + (x - -m)) (b + (a + (x - -m) - -m)) (by simp [h]) (by simp [hq]) (by simp [hr]) (by omega) (by omega) (by omega) (by omega))) (by simp [mdl2, em, eb])
      simp only [spec_dmTwo.l0, if_pos e1, if_pos (Int.natCast_nonneg _), e2, e3, f8, e6, e7, e8, e9]
      rw [if_neg (by omega), if_pos (by omega), if_pos (by omega)]
theorem spec_dmTwo_ev (m : Int) (l : List Int) (h : scaledM m l = true) : Ev (fun k => spec_dmTwo.f k m l) ((mdl2 m l 0 0).map (·.1), (mdl2 m l 0 0).map (·.2)) := by
  have h' := scaledM_iff.1 h
  have hl := sig_len h'.2.1
  have := spec_dmTwo_l0 m h'.1 l hl (scaled_mem h) l [] [] [] 0 0 rfl rfl rfl (by simp) (by simp) (by simp) (by simp)
  simpa [spec_dmTwo.f] using this

def oneBitsM (m : Int) (s : List Int) : List Int × Bool := if scaledM m s = true then ((mdl m s 0).map (·.1), true) else ([], false)
theorem impl_OneBits_ev (m : Int) (s : List Int) (hs : s.length ≤ 1000000) : Ev (fun k => impl_OneBits.f k m s) (oneBitsM m s) := by
  simp only [impl_OneBits.f, oneBitsM]
  refine Ev.bind (impl_isScaled_ev m s hs) ?_
  by_cases c : scaledM m s = true
  · rw [if_pos c]
    exact Ev.tt c (Ev.bind (impl_modulate_ev m s c) (Ev.now _))
  · rw [if_neg c]
    exact Ev.ff c (Ev.now _)
theorem spec_OneBits_ev (m : Int) (s : List Int) (hs : s.length ≤ 1000000) : Ev (fun k => spec_OneBits.f k m s) (oneBitsM m s) := by
  simp only [spec_OneBits.f, oneBitsM]
  refine Ev.bind (spec_dmScaled_ev m s hs) ?_
  by_cases c : scaledM m s = true
  · rw [if_pos c]
    exact Ev.tt c (Ev.bind (spec_dmOne_ev m s c) (Ev.now _))
  · rw [if_neg c]
    exact Ev.ff c (Ev.now _)

def statesM (m : Int) (s : List Int) : List Int × Bool := if scaledM m s = true then ((mdl m s 0).map (·.2), true) else ([], false)
theorem impl_StatesOfBits_ev (m : Int) (s : List Int) (hs : s.length ≤ 1000000) : Ev (fun k => impl_StatesOfBits.f k m s) (statesM m s) := by
  simp only [impl_StatesOfBits.f, statesM]
  refine Ev.bind (impl_isScaled_ev m s hs) ?_
  by_cases c : scaledM m s = true
  · rw [if_pos c]
    exact Ev.tt c (Ev.bind (impl_modulate_ev m s c) (Ev.now _))
  · rw [if_neg c]
    exact Ev.ff c (Ev.now _)
theorem spec_StatesOfBits_ev (m : Int) (s : List Int) (hs : s.length ≤ 1000000) : Ev (fun k => spec_StatesOfBits.f k m s) (statesM m s) := by
  simp only [spec_StatesOfBits.f, statesM]
  refine Ev.bind (spec_dmScaled_ev m s hs) ?_
  by_cases c : scaledM m s = true
  · rw [if_pos c]
    exact Ev.tt c (Ev.bind (spec_dmOne_ev m s c) (Ev.now _))
  · rw [if_neg c]
    exact Ev.ff c (Ev.now _)

def twoBitsM (m : Int) (s : List Int) : List Int × Bool := if scaledM m s = true then ((mdl2 m s 0 0).map (·.1), true) else ([], false)
theorem impl_TwoBits_ev (m : Int) (s : List Int) (hs : s.length ≤ 1000000) : Ev (fun k => impl_TwoBits.f k m s) (twoBitsM m s) := by
  simp only [impl_TwoBits.f, twoBitsM]
  refine Ev.bind (impl_isScaled_ev m s hs) ?_
  by_cases c : scaledM m s = true
  · rw [if_pos c]
    exact Ev.tt c (Ev.bind (impl_modulateTwo_ev m s c) (Ev.now _))
  · rw [if_neg c]
    exact Ev.ff c (Ev.now _)
theorem spec_TwoBits_ev (m : Int) (s : List Int) (hs : s.length ≤ 1000000) : Ev (fun k => spec_TwoBits.f k m s) (twoBitsM m s) := by
  simp only [spec_TwoBits.f, twoBitsM]
  refine Ev.bind (spec_dmScaled_ev m s hs) ?_
  by_cases c : scaledM m s = true
  · rw [if_pos c]
    exact Ev.tt c (Ev.bind (spec_dmTwo_ev m s c) (Ev.now _))
  · rw [if_neg c]
    exact Ev.ff c (Ev.now _)

def twoStatesM (m : Int) (s : List Int) : List (List Int) × Bool := if scaledM m s = true then ((mdl2 m s 0 0).map (·.2), true) else ([], false)
theorem impl_TwoStates_ev (m : Int) (s : List Int) (hs : s.length ≤ 1000000) : Ev (fun k => impl_TwoStates.f k m s) (twoStatesM m s) := by
  simp only [impl_TwoStates.f, twoStatesM]
  refine Ev.bind (impl_isScaled_ev m s hs) ?_
  by_cases c : scaledM m s = true
  · rw [if_pos c]
    exact Ev.tt c (Ev.bind (impl_modulateTwo_ev m s c) (Ev.now _))
  · rw [if_neg c]
    exact Ev.ff c (Ev.now _)
theorem spec_TwoStates_ev (m : Int) (s : List Int) (hs : s.length ≤ 1000000) : Ev (fun k => spec_TwoStates.f k m s) (twoStatesM m s) := by
  simp only [spec_TwoStates.f, twoStatesM]
  refine Ev.bind (spec_dmScaled_ev m s hs) ?_
  by_cases c : scaledM m s = true
  · rw [if_pos c]
    exact Ev.tt c (Ev.bind (spec_dmTwo_ev m s c) (Ev.now _))
  · rw [if_neg c]
    exact Ev.ff c (Ev.now _)

def sumGapM (m : Int) (s : List Int) : Int × Bool := if scaledM m s = true then (sm s - m * sm ((mdl m s 0).map (·.1)), true) else (0, false)
theorem mul_sm {m u : Int} (hm : 1 ≤ m ∧ m ≤ 1000) (hu : -1000000 ≤ u ∧ u ≤ 1000000) : -1000000000 ≤ m * u ∧ m * u ≤ 1000000000 := by
  have h1 : (m.natAbs * u.natAbs : Nat) ≤ 1000 * 1000000 := Nat.mul_le_mul (by omega) (by omega)
  have h2 := Int.natAbs_mul m u
  omega
theorem sumGap_w (m : Int) (s : List Int) (c : scaledM m s = true) : wrap64 (sm s - wrap64 (m * sm ((mdl m s 0).map (·.1)))) = sm s - m * sm ((mdl m s 0).map (·.1)) := by
  have c' := scaledM_iff.1 c
  have hl := sig_len c'.2.1
  have h1 := sm_bd 100000 (by omega) s (sig_mem c'.2.1)
  have h2 := sm_bd 1 (by omega) ((mdl m s 0).map (·.1)) (fun b hb => by have := mdl_bits m s 0 b hb; omega)
  have h3 : ((mdl m s 0).map (·.1)).length = s.length := by rw [List.length_map, mdl_length]
  rw [h3] at h2
  have h4 := mul_sm c'.1 (u := sm ((mdl m s 0).map (·.1))) (by omega)
  rw [w64 (n := m * sm ((mdl m s 0).map (·.1))) (by omega) (by omega), w64 (by omega) (by omega)]
theorem impl_SumGap_ev (m : Int) (s : List Int) (hs : s.length ≤ 1000000) : Ev (fun k => impl_SumGap.f k m s) (sumGapM m s) := by
  simp only [impl_SumGap.f, sumGapM]
  refine Ev.bind (impl_isScaled_ev m s hs) ?_
  by_cases c : scaledM m s = true
  · have c' := scaledM_iff.1 c
    rw [if_pos c]
    have h3 : ((mdl m s 0).map (·.1)).length = s.length := by rw [List.length_map, mdl_length]
    refine Ev.tt c (Ev.bind (impl_modulate_ev m s c) (Ev.bind (impl_sum_ev s hs (fun x hx => by have := sig_mem c'.2.1 x hx; omega)) (Ev.bind (impl_sum_ev ((mdl m s 0).map (·.1)) (by omega) (fun b hb => by have := mdl_bits m s 0 b hb; omega)) (Ev.to (Ev.now _) ?_))))
    rw [sumGap_w m s c]
  · rw [if_neg c]
    exact Ev.ff c (Ev.now _)
theorem spec_SumGap_ev (m : Int) (s : List Int) (hs : s.length ≤ 1000000) : Ev (fun k => spec_SumGap.f k m s) (sumGapM m s) := by
  simp only [spec_SumGap.f, sumGapM]
  refine Ev.bind (spec_dmScaled_ev m s hs) ?_
  by_cases c : scaledM m s = true
  · have c' := scaledM_iff.1 c
    rw [if_pos c]
    have h3 : ((mdl m s 0).map (·.1)).length = s.length := by rw [List.length_map, mdl_length]
    refine Ev.tt c (Ev.bind (spec_dmOne_ev m s c) (Ev.bind (spec_wdSum_ev s hs (fun x hx => by have := sig_mem c'.2.1 x hx; omega)) (Ev.bind (spec_wdSum_ev ((mdl m s 0).map (·.1)) (by omega) (fun b hb => by have := mdl_bits m s 0 b hb; omega)) (Ev.to (Ev.now _) ?_))))
    rw [sumGap_w m s c]
  · rw [if_neg c]
    exact Ev.ff c (Ev.now _)

theorem impl_IsScaled_ev (m : Int) (s : List Int) (hs : s.length ≤ 1000000) : Ev (fun k => impl_IsScaled.f k m s) (scaledM m s) := by
  simp only [impl_IsScaled.f]
  exact Ev.bind (impl_isScaled_ev m s hs) (Ev.now _)
theorem spec_IsScaled_ev (m : Int) (s : List Int) (hs : s.length ≤ 1000000) : Ev (fun k => spec_IsScaled.f k m s) (scaledM m s) := by
  simp only [spec_IsScaled.f]
  exact Ev.bind (spec_dmScaled_ev m s hs) (Ev.now _)

theorem last_set (Q : List Int) (v u : Int) (h : Q.length ≤ 1000000) : (Q ++ [v]).set (wrap64 (((Q ++ [v]).length : Int) - 1)).toNat u = Q ++ [u] ∧ rd (Q ++ [v]) (wrap64 (((Q ++ [v]).length : Int) - 1)) = v ∧ 0 ≤ wrap64 (((Q ++ [v]).length : Int) - 1) ∧ wrap64 (((Q ++ [v]).length : Int) - 1) < ((Q ++ [v]).length : Int) := by
  have e : wrap64 (((Q ++ [v]).length : Int) - 1) = (Q.length : Int) := by
    have el : ((Q ++ [v]).length : Int) = (Q.length : Int) + 1 := by simp
    rw [w64 (n := ((Q ++ [v]).length : Int) - 1) (by omega) (by omega)]
    omega
  rw [e]
  refine ⟨?_, by simp [rd], by omega, by simp; omega⟩
  rw [Int.toNat_natCast, List.set_append_right _ _ (Nat.le_refl _)]
  simp
theorem impl_RunsOf_l0 (l : List Int) (hl : l.length ≤ 200) : ∀ (t p R : List Int), l = p ++ t → sm R = p.length → R.length ≤ p.length → (∀ x ∈ R, 0 ≤ x ∧ x ≤ p.length) → (p ≠ [] → R ≠ []) →
    ∃ R', Ev (fun k => impl_RunsOf.l0 k l R l (l.length : Int) (p.length : Int)) (R', true) ∧ sm R' = l.length ∧ R'.length ≤ l.length ∧ (∀ x ∈ R', 0 ≤ x ∧ x ≤ l.length)
  | [], p, R, h, hs, hR, hb, hne => by
    refine ⟨R, Ev.step (f := fun _ => some (R, true)) (fun k => ?_) (Ev.now _), ?_⟩
    · subst h
      simp [impl_RunsOf.l0]
    · have e : l = p := by simpa using h
      rw [e]
      exact ⟨hs, hR, hb⟩
  | x :: t, p, R, h, hs, hR, hb, hne => by
    have e1 : (p.length : Int) < (l.length : Int) := by rw [h]; exact lt_mid p t x
    have e2 : rd l (p.length : Int) = x := by rw [h]; exact rd_mid p t x
    have e3 : wrap64 ((p.length : Int) + 1) = ((p ++ [x]).length : Int) := nx_mid p t x (by rw [← h]; omega)
    have hpl : p.length + 1 ≤ 200 := by rw [h] at hl; simp at hl; omega
    have hl1 : ((p ++ [x]).length : Int) = (p.length : Int) + 1 := by simp
    have hl2 : (p ++ [x]).length = p.length + 1 := by simp
    -- the two ways on
    have new : ∃ R', Ev (fun k => impl_RunsOf.l0 k l (R ++ [1]) l (l.length : Int) ((p ++ [x]).length : Int)) (R', true) ∧ sm R' = l.length ∧ R'.length ≤ l.length ∧ (∀ x ∈ R', 0 ≤ x ∧ x ≤ l.length) := by
      refine impl_RunsOf_l0 l hl t (p ++ [x]) (R ++ [1]) (by simp [h]) (by rw [sm_app, hs]; simp [sm]) (by simp; omega) (fun y hy => ?_) (fun _ => by simp)
      rcases List.mem_append.1 hy with hy | hy
      · have := hb y hy
        omega
      · have : y = 1 := by simpa using hy
        omega
    have step1 : ∀ k, (if R.length < 17592186044416 then ((some (R ++ [0] : List Int)).bind fun y => (if 0 ≤ (wrap64 ((y.length : Int) - 1)) then (if (wrap64 ((y.length : Int) - 1)) < (y.length : Int) then (impl_RunsOf.l0 k l (y.set ((wrap64 ((y.length : Int) - 1)) : Int).toNat (wrap64 ((rd y (wrap64 ((y.length : Int) - 1))) + 1))) l (l.length : Int) ((p ++ [x]).length : Int)) else (none)) else (none))) else (none)) = impl_RunsOf.l0 k l (R ++ [1]) l (l.length : Int) ((p ++ [x]).length : Int) := by
      intro k
      obtain ⟨-, s2, s3, s4⟩ := last_set R 0 1 (by omega)
      rw [if_pos (by omega), Option.bind_some, if_pos s3, if_pos s4, s2]
      have e : wrap64 ((0 : Int) + 1) = 1 := w64 (by omega) (by omega)
      rw [e, (last_set R 0 1 (by omega)).1]
    by_cases c0 : p = []
    · obtain ⟨R', h1, h2⟩ := new
      refine ⟨R', Ev.step (fun k => ?_) h1, h2⟩
      have c1 : (p.length : Int) = 0 := by rw [c0]; rfl
      simp only [impl_RunsOf.l0]
      rw [if_pos e1, if_pos (Int.natCast_nonneg _), if_pos e1, if_pos c1, e3]
      exact step1 k
    · have hp0 : p.length ≠ 0 := fun h => c0 (List.length_eq_zero_iff.1 h)
      have c1 : ¬ (p.length : Int) = 0 := by omega
      have e4 : wrap64 ((p.length : Int) - 1) = (p.length : Int) - 1 := w64 (by omega) (by omega)
      by_cases c2 : rd l ((p.length : Int) - 1) = x
      · obtain ⟨Q, v, rfl⟩ : ∃ Q v, R = Q ++ [v] := ⟨R.dropLast, R.getLast (hne c0), (List.dropLast_concat_getLast (hne c0)).symm⟩
        have hv := hb v (by simp)
        have hQ : Q.length ≤ 200 := by simp at hR; omega
        obtain ⟨R', h1, h2⟩ := impl_RunsOf_l0 l hl t (p ++ [x]) (Q ++ [v + 1]) (by simp [h]) (by rw [sm_app] at hs ⊢; simp [sm] at hs ⊢; omega) (by simp at hR ⊢; omega) (fun y hy => by
          rcases List.mem_append.1 hy with hy | hy
          · have := hb y (by simp [hy])
            omega
          · have : y = v + 1 := by simpa using hy
            omega) (fun _ => by simp)
        refine ⟨R', Ev.step (fun k => ?_) h1, h2⟩
        obtain ⟨s1, s2, s3, s4⟩ := last_set Q v (v + 1) (by omega)
        simp only [impl_RunsOf.l0]
        rw [if_pos e1, if_pos (Int.natCast_nonneg _), if_pos e1, if_neg c1, e4, if_pos (by omega), if_pos (by omega), e2, if_pos c2, if_pos s3, if_pos s4, s2, w64 (n := v + 1) (by omega) (by omega), s1, e3]
      · obtain ⟨R', h1, h2⟩ := new
        refine ⟨R', Ev.step (fun k => ?_) h1, h2⟩
        simp only [impl_RunsOf.l0]
        rw [if_pos e1, if_pos (Int.natCast_nonneg _), if_pos e1, if_neg c1, e4, if_pos (by omega), if_pos (by omega), e2, if_neg c2, e3]
        exact step1 k
theorem impl_RunsOf_ev (l : List Int) (hl : isBits l = true) : ∃ R, Ev (fun k => impl_RunsOf.f k l) (R, true) ∧ sm R = l.length ∧ R.length ≤ 200 ∧ (∀ x ∈ R, 0 ≤ x ∧ x ≤ 200) := by
  have h := isBits_len hl
  obtain ⟨R, h1, h2, h3, h4⟩ := impl_RunsOf_l0 l h l [] [] rfl rfl (by simp) (by simp) (by simp)
  refine ⟨R, ?_, h2, by omega, fun x hx => by have := h4 x hx; omega⟩
  simp only [impl_RunsOf.f]
  exact Ev.bind (impl_areBits_ev l (by omega)) (Ev.tt hl (by simpa using h1))

theorem laws_big_eq (l m : List Int) (hl : l.length ≤ 140737488355328) (hm : m.length ≤ 140737488355328) : laws_big.f l m = some (decide (1048576 < l.length + m.length)) := by
  unfold laws_big.f
  by_cases c : (l.length : Int) > 1048576
  · rw [if_pos c]
    simp; omega
  · rw [if_neg c, w64 (n := 1048576 - (l.length : Int)) (by omega) (by omega)]
    simp; omega
theorem bytes_of {l : List Int} (h : l.length ≤ 1048576) (hx : ∀ x ∈ l, (Lit.int .u8 x).wf = true) : Bytes l := by
  refine ⟨h, fun x hxl => ?_⟩
  have := hx x hxl
  simp [Lit.wf, IntKind.min, IntKind.max, IntKind.signed, IntKind.bits] at this
  omega

theorem laws_iSum_l0 (l : List Int) (hl : l.length ≤ 1000000) (hb : ∀ x ∈ l, -1000000 ≤ x ∧ x ≤ 1000000) : ∀ (t p : List Int), l = p ++ t → Ev (fun k => laws_iSum.l0 k (sm p) l (l.length : Int) (p.length : Int)) (sm l)
  | [], p, h => by
    refine Ev.to (Ev.step (f := fun _ => some (sm p)) (fun k => ?_) (Ev.now _)) (by rw [h]; simp)
    subst h
    simp [laws_iSum.l0]
  | x :: t, p, h => by
    have e1 : (p.length : Int) < (l.length : Int) := by rw [h]; exact lt_mid p t x
    have e2 : rd l (p.length : Int) = x := by rw [h]; exact rd_mid p t x
    have e3 : wrap64 ((p.length : Int) + 1) = ((p ++ [x]).length : Int) := nx_mid p t x (by rw [← h]; omega)
    have hx := hb x (by rw [h]; simp)
    have hp := sm_bd 1000000 (by omega) p (fun y hy => hb y (by rw [h]; simp [hy]))
    have hpl : p.length ≤ 1000000 := by rw [h] at hl; simp at hl; omega
    have e4 : wrap64 (sm p + x) = sm (p ++ [x]) := by
      rw [w64 (n := sm p + x) (by omega) (by omega), sm_app]
      simp [sm]
    refine Ev.step (fun k => ?_) (laws_iSum_l0 l hl hb t (p ++ [x]) (by simp [h]))
    simp only [laws_iSum.l0, if_pos e1, if_pos (Int.natCast_nonneg _), e2, e3, e4]
theorem laws_iSum_ev (l : List Int) (hl : l.length ≤ 1000000) (hb : ∀ x ∈ l, -1000000 ≤ x ∧ x ≤ 1000000) : Ev (fun k => laws_iSum.f k l) (sm l) := by
  have h := laws_iSum_l0 l hl hb l [] rfl
  simpa [laws_iSum.f, sm] using h

theorem laws_iSame_l0 (l : List Int) (hl : l.length ≤ 140737488351232) : ∀ (t p : List Int), l = p ++ t → Ev (fun k => laws_iSame.l0 k l l (l.length : Int) (p.length : Int)) true
  | [], p, h => by
    refine Ev.step (f := fun _ => some true) (fun k => ?_) (Ev.now _)
    subst h
    simp [laws_iSame.l0]
  | x :: t, p, h => by
    have e1 : (p.length : Int) < (l.length : Int) := by rw [h]; exact lt_mid p t x
    have e3 : wrap64 ((p.length : Int) + 1) = ((p ++ [x]).length : Int) := nx_mid p t x (h ▸ hl)
    refine Ev.step (fun k => ?_) (laws_iSame_l0 l hl t (p ++ [x]) (by simp [h]))
    simp only [laws_iSame.l0, if_pos e1, if_pos (Int.natCast_nonneg _), e3]
    rw [if_pos trivial]
theorem laws_iSame_ev (l : List Int) (hl : l.length ≤ 140737488351232) : Ev (fun k => laws_iSame.f k l l) true := by
  simp only [laws_iSame.f]
  exact Ev.tt trivial (laws_iSame_l0 l hl l [] rfl)

theorem laws_iSize_eq (x : Int) (hx : -4611686018427387904 ≤ x) : laws_iSize.f x = some (x.natAbs : Int) := by
  unfold laws_iSize.f
  by_cases c : x < 0
  · rw [if_pos c, w64 (n := -x) (by omega) (by omega)]
    congr 1
    omega
  · rw [if_neg c]
    congr 1
    omega

theorem laws_iRows_l0 (l : List (List Int)) (hl : l.length ≤ 140737488351232) (hb : ∀ x ∈ l, x.length ≤ 1000000) : ∀ (t p : List (List Int)), l = p ++ t → Ev (fun k => laws_iRows.l0 k l l (l.length : Int) (p.length : Int)) true
  | [], p, h => by
    refine Ev.step (f := fun _ => some true) (fun k => ?_) (Ev.now _)
    subst h
    simp [laws_iRows.l0]
  | x :: t, p, h => by
    have e1 : (p.length : Int) < (l.length : Int) := by rw [h]; exact lt_mid p t x
    have e2 : rd_L2 l (p.length : Int) = x := by rw [h]; simp [rd_L2]
    have e3 : wrap64 ((p.length : Int) + 1) = ((p ++ [x]).length : Int) := nx_mid p t x (h ▸ hl)
    have hx := hb x (by rw [h]; simp)
    refine Ev.step (fun k => by simp only [laws_iRows.l0]; rfl) ?_
    rw [e2, e3]
    exact Ev.tt e1 (Ev.tt (Int.natCast_nonneg _) (Ev.tt e1 (Ev.tt e1 (Ev.bind (laws_iSame_ev x (by omega)) (Ev.tt rfl (laws_iRows_l0 l hl hb t (p ++ [x]) (by simp [h])))))))
theorem laws_iRows_ev (l : List (List Int)) (hl : l.length ≤ 140737488351232) (hb : ∀ x ∈ l, x.length ≤ 1000000) : Ev (fun k => laws_iRows.f k l l) true := by
  simp only [laws_iRows.f]
  exact Ev.tt trivial (laws_iRows_l0 l hl hb l [] rfl)

theorem law_l1 (m : Int) (hm : 1 ≤ m ∧ m ≤ 1000) (s B : List Int) (S : List (List Int)) (hl : s.length ≤ 64) (hb : ∀ x ∈ s, -m ≤ x ∧ x ≤ m) : ∀ (t p P : List Int) (P2 : List (List Int)) (a b : Int), s = p ++ t → B = P ++ (mdl2 m t a b).map (·.1) → S = P2 ++ (mdl2 m t a b).map (·.2) → P.length = p.length → P2.length = p.length → -(2000 * p.length) ≤ a → a ≤ 2000 * p.length → -(1000000 * p.length) ≤ b → b ≤ 1000000 * p.length →
    Ev (fun k => laws_FnBitsKeepSums.l1 k m s S a b B (B.length : Int) (p.length : Int)) true
  | [], p, P, P2, a, b, h, hB, hS, hP, hP2, h0, h1, h2, h3 => by
    refine Ev.step (f := fun _ => some true) (fun k => ?_) (Ev.now _)
    have e : B.length = p.length := by rw [hB]; simp [mdl2, hP]
    simp only [laws_FnBitsKeepSums.l1]
    rw [if_neg (by omega)]
  | x :: t, p, P, P2, a, b, h, hB, hS, hP, hP2, h0, h1, h2, h3 => by
    have e1 : (p.length : Int) < (s.length : Int) := by rw [h]; exact lt_mid p t x
    have e2 : rd s (p.length : Int) = x := by rw [h]; exact rd_mid p t x
    have e3 : wrap64 ((p.length : Int) + 1) = ((p ++ [x]).length : Int) := nx_mid p t x (by rw [← h]; omega)
    have hx := hb x (by rw [h]; simp)
    have hpl : p.length + 1 ≤ 64 := by rw [h] at hl; simp at hl; omega
    have hl1 : ((p ++ [x]).length : Int) = (p.length : Int) + 1 := by simp
    have eBl : (p.length : Int) < (B.length : Int) := by rw [hB, ← hP]; simp [mdl2]; omega
    have eSl : (p.length : Int) < (S.length : Int) := by rw [hS, ← hP2]; simp [mdl2]; omega
    have eB : rd B (p.length : Int) = bz b := by rw [hB, ← hP]; simp only [mdl2, List.map_cons]; exact rd_mid _ _ _
    have eS : rd_L2 S (p.length : Int) = [a + (x - m * bz b), b + (a + (x - m * bz b) - m * bz b)] := by rw [hS, ← hP2]; simp [mdl2, rd_L2]
    have hc := mul_bz m b
    have e5 : wrap64 (m * bz b) = m * bz b := w64 (by omega) (by omega)
    have e6 : wrap64 (x - m * bz b) = x - m * bz b := w64 (by omega) (by omega)
    have e7 : wrap64 (a + (x - m * bz b)) = a + (x - m * bz b) := w64 (by omega) (by omega)
    have e8 : wrap64 (a + (x - m * bz b) - m * bz b) = a + (x - m * bz b) - m * bz b := w64 (by omega) (by omega)
    have e9 : wrap64 (b + (a + (x - m * bz b) - m * bz b)) = b + (a + (x - m * bz b) - m * bz b) := w64 (by omega) (by omega)
    have next := law_l1 m hm s B S hl hb t (p ++ [x]) (P ++ [bz b]) (P2 ++ [[a + (x - m * bz b), b + (a + (x - m * bz b) - m * bz b)]]) (a + (x - m * bz b)) (b + (a + (x - m * bz b) - m * bz b)) (by simp [h]) (by rw [hB]; simp [mdl2]) (by rw [hS]; simp [mdl2]) (by simp [hP]) (by simp [hP2]) (by omega) (by omega) (by omega) (by omega)
    have eq : ((bz b == 1) != decide (b ≥ 0)) = false := by
      rcases bz_cases b with ⟨g, e⟩ | ⟨g, e⟩
      · rw [e, decide_eq_true g]
        rfl
      · rw [e, decide_eq_false (by omega)]
        rfl
    refine Ev.step (fun k => by simp only [laws_FnBitsKeepSums.l1]; rfl) ?_
    rw [eB, e2, e5, e6, e7, e8, e9, eS, eq, e3]
    exact Ev.tt eBl (Ev.tt (Int.natCast_nonneg _) (Ev.tt eBl (Ev.ff (by decide) (Ev.tt e1 (Ev.tt eSl (Ev.bind (laws_iSame_ev _ (by simp)) (Ev.tt rfl next)))))))
theorem law_j3 {l : List Int} (hl : Bytes l) : Ev (fun k => laws_FnBitsKeepSums.j3 k l) true := by
  obtain ⟨m, s, hd, hs⟩ := scaled_ok hl
  have hd' : Ev (fun k => spec_DrawTwoBits.f k l) (m, s) := by
    simp only [spec_DrawTwoBits.f]
    exact Ev.bind hd (Ev.now _)
  refine Ev.step (fun k => by simp only [laws_FnBitsKeepSums.j3]; rfl) ?_
  refine Ev.bind hd' (Ev.bind (impl_TwoBits_ev m s (by omega)) (Ev.bind (spec_TwoBits_ev m s (by omega)) (Ev.bind (impl_TwoStates_ev m s (by omega)) (Ev.bind (spec_TwoStates_ev m s (by omega)) ?_))))
  dsimp only
  refine Ev.ff (by simp) ?_
  by_cases c : scaledM m s = true
  · have c' := scaledM_iff.1 c
    have hsl := sig_len c'.2.1
    have e1 : twoBitsM m s = ((mdl2 m s 0 0).map (·.1), true) := by rw [twoBitsM, if_pos c]
    have e2 : twoStatesM m s = ((mdl2 m s 0 0).map (·.2), true) := by rw [twoStatesM, if_pos c]
    rw [e1, e2]
    refine Ev.bind (laws_iSame_ev _ (by simp [mdl2_length]; omega)) (Ev.tt rfl (Ev.ff (by simp) (Ev.bind (laws_iRows_ev _ (by simp [mdl2_length]; omega) (mdl2_rows m s 0 0)) (Ev.tt rfl ?_))))
    refine Ev.step (fun k => by simp only [laws_FnBitsKeepSums.j4]; rfl) ?_
    refine Ev.ff (by simp) (Ev.tt trivial ?_)
    exact law_l1 m c'.1 s _ _ hsl (scaled_mem c) s [] [] [] 0 0 rfl rfl rfl rfl rfl (by simp) (by simp) (by simp) (by simp)
  · have e1 : twoBitsM m s = ([], false) := by rw [twoBitsM, if_neg c]
    have e2 : twoStatesM m s = ([], false) := by rw [twoStatesM, if_neg c]
    rw [e1, e2]
    refine Ev.bind (laws_iSame_ev _ (by simp)) (Ev.tt rfl (Ev.ff (by simp) (Ev.bind (laws_iRows_ev _ (by simp) (by simp)) (Ev.tt rfl ?_))))
    exact Ev.step (f := fun _ => some true) (fun k => by simp [laws_FnBitsKeepSums.j4]) (Ev.now _)
theorem law_l0 {l : List Int} (hl : Bytes l) (m : Int) (hm : 1 ≤ m ∧ m ≤ 1000) (s B S : List Int) (gap : Int) (hsl : s.length ≤ 64) (hb : ∀ x ∈ s, -m ≤ x ∧ x ≤ m) (hBl : B.length = s.length) (hBb : isBits B = true) : ∀ (t p P P2 : List Int) (su gi : Int), s = p ++ t → B = P ++ (mdl m t (su - gi)).map (·.1) → S = P2 ++ (mdl m t (su - gi)).map (·.2) → P.length = p.length → P2.length = p.length → -m ≤ su - gi → su - gi ≤ m - 1 → -(1000 * p.length) ≤ su → su ≤ 1000 * p.length → gap = (su - gi) + (sm t - m * sm ((mdl m t (su - gi)).map (·.1))) →
    Ev (fun k => laws_FnBitsKeepSums.l0 k l m s B S gap su gi B (B.length : Int) (p.length : Int)) true
  | [], p, P, P2, su, gi, h, hB, hS, hP, hP2, h0, h1, h2, h3, hg => by
    have e : B.length = p.length := by rw [hB]; simp [mdl, hP]
    have eg : gap = su - gi := by
      rw [hg]
      simp [sm, mdl]
    have hpl : p.length ≤ 64 := by omega
    obtain ⟨R, hR, hR1, hR2, hR3⟩ := impl_RunsOf_ev B hBb
    refine Ev.step (fun k => by simp only [laws_FnBitsKeepSums.l0]; rfl) ?_
    rw [w64 (n := su - gi) (by omega) (by omega)]
    refine Ev.ff (by omega) (Ev.tt eg (Ev.tt (by omega) (Ev.dbind (laws_iSize_eq gap (by omega)) ?_)))
    rw [decide_eq_false (by omega)]
    refine Ev.step (fun k => by simp only [laws_FnBitsKeepSums.j2]; rfl) ?_
    refine Ev.ff (by decide) (Ev.bind hR (Ev.tt rfl (Ev.bind (laws_iSum_ev R (by omega) (fun x hx => by have := hR3 x hx; omega)) (Ev.tt hR1 (law_j3 hl)))))
  | x :: t, p, P, P2, su, gi, h, hB, hS, hP, hP2, h0, h1, h2, h3, hg => by
    have e1 : (p.length : Int) < (s.length : Int) := by rw [h]; exact lt_mid p t x
    have e2 : rd s (p.length : Int) = x := by rw [h]; exact rd_mid p t x
    have e3 : wrap64 ((p.length : Int) + 1) = ((p ++ [x]).length : Int) := nx_mid p t x (by rw [← h]; omega)
    have hx := hb x (by rw [h]; simp)
    have hpl : p.length + 1 ≤ 64 := by rw [h] at hsl; simp at hsl; omega
    have hl1 : ((p ++ [x]).length : Int) = (p.length : Int) + 1 := by simp
    have eBl : (p.length : Int) < (B.length : Int) := by omega
    have eSl : (p.length : Int) < (S.length : Int) := by rw [hS, ← hP2]; simp [mdl]; omega
    have hc := mul_bz m (su - gi + x)
    have ed : su + x - (gi + m * bz (su - gi + x)) = su - gi + x - m * bz (su - gi + x) := by omega
    have eB : rd B (p.length : Int) = bz (su - gi + x) := by rw [hB, ← hP]; simp only [mdl, List.map_cons]; exact rd_mid _ _ _
    have eS : rd S (p.length : Int) = su - gi + x - m * bz (su - gi + x) := by rw [hS, ← hP2]; simp only [mdl, List.map_cons]; exact rd_mid _ _ _
    have hgap : gap = su + x - (gi + m * bz (su - gi + x)) + (sm t - m * sm ((mdl m t (su + x - (gi + m * bz (su - gi + x)))).map (·.1))) := by
      rw [hg, ed]
      simp only [mdl, List.map_cons, sm, Int.mul_add]
      omega
    have next := law_l0 hl m hm s B S gap hsl hb hBl hBb t (p ++ [x]) (P ++ [bz (su - gi + x)]) (P2 ++ [su - gi + x - m * bz (su - gi + x)]) (su + x) (gi + m * bz (su - gi + x)) (by simp [h]) (by rw [hB, ed]; simp [mdl]) (by rw [hS, ed]; simp [mdl]) (by simp [hP]) (by simp [hP2]) (by omega) (by omega) (by omega) (by omega) hgap
    have f1 : wrap64 (su + x) = su + x := w64 (by omega) (by omega)
    have f2 : wrap64 (m * bz (su - gi + x)) = m * bz (su - gi + x) := w64 (by omega) (by omega)
    have f3 : wrap64 (gi + m * bz (su - gi + x)) = gi + m * bz (su - gi + x) := w64 (by omega) (by omega)
    have f4 : wrap64 (su + x - (gi + m * bz (su - gi + x))) = su - gi + x - m * bz (su - gi + x) := by rw [w64 (n := su + x - (gi + m * bz (su - gi + x))) (by omega) (by omega), ed]
    have f5 : wrap64 (-m) = -m := w64 (by omega) (by omega)
    have f6 : wrap64 (m - 1) = m - 1 := w64 (by omega) (by omega)
    refine Ev.step (fun k => by simp only [laws_FnBitsKeepSums.l0]; rfl) ?_
    rw [eB, e2, f1, f2, f3, f4, eS, f5, f6, e3]
    refine Ev.tt eBl (Ev.tt (Int.natCast_nonneg _) (Ev.tt eBl (Ev.tt e1 ?_)))
    have tail : Ev (fun k => if su - gi + x - m * bz (su - gi + x) = su - gi + x - m * bz (su - gi + x) then (if su - gi + x - m * bz (su - gi + x) < -m then some false else if su - gi + x - m * bz (su - gi + x) > m - 1 then some false else laws_FnBitsKeepSums.l0 k l m s B S gap (su + x) (gi + m * bz (su - gi + x)) B (B.length : Int) ((p ++ [x]).length : Int)) else some false) true :=
      Ev.tt rfl (Ev.ff (by omega) (Ev.ff (by omega) next))
    by_cases c : bz (su - gi + x) = 1
    · exact Ev.tt c (Ev.tt eSl tail)
    · exact Ev.ff c (Ev.tt (by omega) (Ev.tt eSl tail))
theorem FnBitsKeepSums : laws_FnBitsKeepSums.Pure := by
  intro l l2 h1 h2 h3 h4 h5 h6
  apply Ev.rounds
  simp only [laws_FnBitsKeepSums.f]
  refine Ev.dbind (laws_big_eq l l2 (by omega) (by omega)) ?_
  by_cases big : 1048576 < l.length + l2.length
  · exact Ev.tt (by simpa using big) (Ev.now _)
  refine Ev.ff (by simpa using big) ?_
  have hl : Bytes l := bytes_of (by omega) h3
  have hl2 : Bytes l2 := bytes_of (by omega) h6
  obtain ⟨m, s, hd, hs⟩ := scaled_ok hl
  have hd' : Ev (fun k => spec_DrawOneBits.f k l) (m, s) := by
    simp only [spec_DrawOneBits.f]
    exact Ev.bind hd (Ev.now _)
  refine Ev.bind hd' (Ev.bind (impl_OneBits_ev m s (by omega)) (Ev.bind (spec_OneBits_ev m s (by omega)) (Ev.bind (impl_StatesOfBits_ev m s (by omega)) (Ev.bind (spec_StatesOfBits_ev m s (by omega)) (Ev.bind (impl_SumGap_ev m s (by omega)) (Ev.bind (spec_SumGap_ev m s (by omega)) ?_))))))
  dsimp only
  refine Ev.ff (by simp) ?_
  have hil := impl_IsScaled_ev m s (by omega)
  have hsp := spec_IsScaled_ev m s (by omega)
  by_cases c : scaledM m s = true
  · have c' := scaledM_iff.1 c
    have hsl := sig_len c'.2.1
    have e1 : oneBitsM m s = ((mdl m s 0).map (·.1), true) := by rw [oneBitsM, if_pos c]
    have e2 : statesM m s = ((mdl m s 0).map (·.2), true) := by rw [statesM, if_pos c]
    have e3 : sumGapM m s = (sm s - m * sm ((mdl m s 0).map (·.1)), true) := by rw [sumGapM, if_pos c]
    have hBl : ((mdl m s 0).map (·.1)).length = s.length := by rw [List.length_map, mdl_length]
    have hBb : isBits ((mdl m s 0).map (·.1)) = true := by
      simp only [isBits, Bool.and_eq_true, decide_eq_true_eq, List.all_eq_true]
      exact ⟨by omega, fun b hb => mdl_bits m s 0 b hb⟩
    rw [e1, e2, e3]
    rw [c] at hil hsp
    refine Ev.bind (laws_iSame_ev _ (by simp [mdl_length]; omega)) (Ev.tt rfl (Ev.ff (by simp) (Ev.bind (laws_iSame_ev _ (by simp [mdl_length]; omega)) (Ev.tt rfl (Ev.ff (by simp) (Ev.tt rfl (Ev.bind hil (Ev.ff (by simp) (Ev.bind hil (Ev.bind hsp (Ev.ff (by simp) (Ev.ff (by simp) ?_))))))))))))
    refine Ev.step (fun k => by simp only [laws_FnBitsKeepSums.j0]; rfl) ?_
    refine Ev.ff (by simp) (Ev.tt trivial ?_)
    have := law_l0 hl2 m c'.1 s _ ((mdl m s 0).map (·.2)) (sm s - m * sm ((mdl m s 0).map (·.1))) hsl (scaled_mem c) hBl hBb s [] [] [] 0 0 rfl rfl rfl rfl rfl (by omega) (by omega) (by simp) (by simp) (by simp)
    simpa using this
  · have e1 : oneBitsM m s = ([], false) := by rw [oneBitsM, if_neg c]
    have e2 : statesM m s = ([], false) := by rw [statesM, if_neg c]
    have e3 : sumGapM m s = (0, false) := by rw [sumGapM, if_neg c]
    rw [e1, e2, e3]
    rw [Bool.eq_false_iff.mpr c] at hil hsp
    refine Ev.bind (laws_iSame_ev _ (by simp)) (Ev.tt rfl (Ev.ff (by simp) (Ev.bind (laws_iSame_ev _ (by simp)) (Ev.tt rfl (Ev.ff (by simp) (Ev.tt rfl (Ev.bind hil (Ev.ff (by simp) (Ev.bind hil (Ev.bind hsp (Ev.ff (by simp) (Ev.ff (by simp) ?_))))))))))))
    refine Ev.step (fun k => by simp only [laws_FnBitsKeepSums.j0]; rfl) ?_
    exact Ev.ff (by simp) (Ev.ff (by simp) (law_j3 hl2))

end Go.Proofs.Ythpdpbjgdndnmaa.Pure
