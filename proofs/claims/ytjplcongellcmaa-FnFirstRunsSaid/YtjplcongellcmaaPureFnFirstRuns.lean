/- Runs are steps one after the other, fit words, come near exact numbers by the bound, and impulses are runs. Conditions: none beyond those that the statement itself prints. -/
import Derived.Test.YtjplcongellcmaaPFnFirstRunsx15
namespace Go.Proofs.Ytjplcongellcmaa.Pure
open Go.RowKit Go.Proofs.Ytjplcongellcmaa.PFnFirstRuns Go.Proofs.YtjplcongellcmaaW.PrintWords Go.Proofs.YtjplcongellcmaaW.PrintLast Go.Proofs.YtjplcongellcmaaW.PrintMore
set_option linter.unusedVariables false
set_option linter.unusedSimpArgs false

theorem w64 {n : Int} (h1 : -9223372036854775808 ≤ n) (h2 : n ≤ 9223372036854775807) : wrap64 n = n := by
  unfold wrap64
  omega
theorem Ev.to {α : Type} {g : Nat → Option α} {r r' : α} (h : Ev g r) (e : r = r') : Ev g r' := e ▸ h
theorem Ev.const {α : Type} {g : Option α} {r : α} (h : g = some r) : Ev (fun _ => g) r := ⟨0, fun _ _ => h⟩
theorem Ev.dbind {α β : Type} {g : Option α} {f : Nat → α → Option β} {a : α} {r : β} (h : g = some a) (k : Ev (fun n => f n a) r) : Ev (fun n => g.bind (f n)) r :=
  Ev.bind (g := fun _ => g) (Ev.const h) k
theorem Ev.tt {α : Type} {c : Prop} {_ : Decidable c} {g f : Nat → Option α} {r : α} (h : c) (k : Ev g r) : Ev (fun n => if c then g n else f n) r := by
  simpa only [if_pos h] using k
theorem Ev.ff {α : Type} {c : Prop} {_ : Decidable c} {g f : Nat → Option α} {r : α} (h : ¬ c) (k : Ev f r) : Ev (fun n => if c then g n else f n) r := by
  simpa only [if_neg h] using k
theorem rd_mid (p t : List Int) (x : Int) : rd (p ++ x :: t) (p.length : Int) = x := by
  simp [rd]
theorem lt_mid {α : Type} (p t : List α) (x : α) : (p.length : Int) < ((p ++ x :: t).length : Int) := by
  simp
  omega
theorem nx_mid {α : Type} (p t : List α) (x : α) (h : (p ++ x :: t).length ≤ 140737488351232) : wrap64 ((p.length : Int) + 1) = ((p ++ [x]).length : Int) := by
  simp at h ⊢
  exact w64 (by omega) (by omega)
theorem ap_mid {α : Type} (p t : List α) (x : α) : p ++ x :: t = (p ++ [x]) ++ t := by simp
theorem w64_nat (a b : Nat) (h : a + b ≤ 1000000000) : wrap64 ((a : Int) + (b : Int)) = ((a + b : Nat) : Int) := by
  rw [w64 (n := (a : Int) + (b : Int)) (by omega) (by omega)]
  omega
theorem w64_suc {α : Type} (q : List α) (x : α) (h : q.length ≤ 1000000000) : wrap64 ((q.length : Int) + 1) = ((q ++ [x]).length : Int) := by
  rw [w64 (n := (q.length : Int) + 1) (by omega) (by omega)]
  simp
theorem ar1 {a b c d : Nat} (h1 : a + 1 ≤ c) (h2 : b + 1 ≤ d) : ((a + b : Nat) : Int) < ((c + d - 1 : Nat) : Int) := by omega
theorem ar2 {a b c d : Nat} (h1 : a + 1 ≤ c) (h2 : b + 1 ≤ d) : a + b < c + d - 1 := by omega
theorem ar3 (a b : Nat) : ¬ (a ≤ a + b ∧ a + b - a < b) := by omega
theorem ar4 {v M : Int} (h : -M ≤ v ∧ v ≤ M) (hm : M ≤ 4000000000000000000) : wrap64 v = v := w64 (by omega) (by omega)
theorem ar5 {c v P M H : Int} (hc : -P ≤ c ∧ c ≤ P) (hv : -M ≤ v ∧ v ≤ M) (hp : P + M ≤ H) (hH : H ≤ 4000000000000000000) : wrap64 (c + v) = c + v := w64 (by omega) (by omega)
theorem ar6 {a b : Nat} {M : Int} (h : a + 1 ≤ b) (hM : 0 ≤ M) : (a : Int) * M + M ≤ (b : Int) * M := by
  have h1 : ((a : Int) + 1) * M ≤ (b : Int) * M := Int.mul_le_mul_of_nonneg_right (by omega) hM
  rw [Int.add_mul, Int.one_mul] at h1
  exact h1
theorem ar7 {a b c d : Nat} (h1 : a + 1 ≤ c) (h2 : b + 1 ≤ d) (h : c + d ≤ 100000000) : a + b ≤ 1000000000 := by omega
theorem ar8 {a c d : Nat} (h1 : a + 1 ≤ c) (h : c + d ≤ 100000000) : a ≤ 1000000000 := by omega
theorem tm (a b : Nat) : Int.tmod (a : Int) (b : Int) = ((a % b : Nat) : Int) := (Int.ofNat_tmod a b).symm
theorem td (a b : Nat) : Int.tdiv (a : Int) (b : Int) = ((a / b : Nat) : Int) := (Int.ofNat_tdiv a b).symm
theorem w64n {a : Nat} (h : a ≤ 1000000000) : wrap64 (a : Int) = (a : Int) := w64 (by omega) (by omega)

def backOf (n : Int) : Int × Bool := if n = 3 then (-1, true) else if n = 4 then (0, true) else if n = 6 then (1, true) else (0, false)
def tnF (c : Int) : List Int → Int → Int → Int × Int
  | [], y, z => (y, z)
  | x :: t, y, z => tnF c t (wrap64 ((wrap64 (x + (wrap64 (c * y)))) - z)) y
def sig (l : List Int) : Bool := decide (l.length ≤ 64) && l.all fun x => decide (-100000 ≤ x) && decide (x ≤ 100000)
def toneStates (l : List Int) (n : Int) : Int × Int × Bool := if (backOf n).2 = true then (if sig l = true then ((tnF (backOf n).1 l 0 0).1, (tnF (backOf n).1 l 0 0).2, true) else (0, 0, false)) else (0, 0, false)
theorem sig_len {l : List Int} (h : sig l = true) : l.length ≤ 64 := by
  simp [sig] at h
  exact h.1
theorem sig_mem {l : List Int} (h : sig l = true) : ∀ x ∈ l, -100000 ≤ x ∧ x ≤ 100000 := by
  simp [sig] at h
  exact h.2
def isBits (l : List Int) : Bool := decide (l.length ≤ 200) && l.all fun x => decide (x = 1 ∨ x = -1)
theorem isBits_len {l : List Int} (h : isBits l = true) : l.length ≤ 200 := by
  simp [isBits] at h
  exact h.1
theorem isBits_mem {l : List Int} (h : isBits l = true) : ∀ x ∈ l, x = 1 ∨ x = -1 := by
  simp [isBits] at h
  exact h.2
def toldM (l : List Int) : List Int × Bool := if sig l = true then (l, true) else ([], false)
theorem toldM_len (l : List Int) : (toldM l).1.length ≤ 64 := by
  unfold toldM
  split
  · exact sig_len ‹_›
  · simp
def bitM (x v : Int) : Int := if x ≥ v then 1 else -1
theorem bitM_cases (x v : Int) : bitM x v = 1 ∨ bitM x v = -1 := by
  unfold bitM
  split <;> simp
def tkS (st last : Int) (fixed : Bool) (bit : Int) : Int :=
  if fixed = true then st else if last = 0 then st else if bit = last then (if 2 * st ≤ 4096 then 2 * st else 4096) else (if 1 ≤ st / 2 then st / 2 else 1)
theorem tkS_bd {st last : Int} {fixed : Bool} {bit : Int} (h0 : 1 ≤ st) (h1 : st ≤ 4096) : 1 ≤ tkS st last fixed bit ∧ tkS st last fixed bit ≤ 4096 := by
  unfold tkS
  repeat' split
  all_goals omega
theorem mul_bit {st bit : Int} (hb : bit = 1 ∨ bit = -1) : st * bit = st ∨ st * bit = -st := by
  rcases hb with rfl | rfl
  · left; omega
  · right; omega
/-- bit, value and step behind each sample -/
def codeM (fixed : Bool) : List Int → Int → Int → Int → List (Int × Int × Int)
  | [], _, _, _ => []
  | x :: t, v, st, last =>
    let b := bitM x v
    let s := tkS st last fixed b
    (b, v + s * b, s) :: codeM fixed t (v + s * b) s b
theorem codeM_length (fixed : Bool) : ∀ (l : List Int) (v st last : Int), (codeM fixed l v st last).length = l.length
  | [], _, _, _ => rfl
  | x :: t, v, st, last => by simp [codeM, codeM_length fixed t]
def fixM (st : Int) : List Int → Int → List Int
  | [], _ => []
  | x :: t, v => bitM x v :: fixM st t (v + bitM x v * st)
theorem fixM_length (st : Int) : ∀ (l : List Int) (v : Int), (fixM st l v).length = l.length
  | [], _ => rfl
  | x :: t, v => by simp [fixM, fixM_length st t]
def fixedBits (l : List Int) (st : Int) : List Int × Bool := if sig l = true ∧ 1 ≤ st ∧ st ≤ 4096 then (fixM st l 0, true) else ([], false)
def decM (fixed : Bool) : List Int → Int → Int → Int → List (Int × Int)
  | [], _, _, _ => []
  | b :: t, v, st, last => (v + tkS st last fixed b * b, tkS st last fixed b) :: decM fixed t (v + tkS st last fixed b * b) (tkS st last fixed b) b
theorem decM_length (fixed : Bool) : ∀ (l : List Int) (v st last : Int), (decM fixed l v st last).length = l.length
  | [], _, _, _ => rfl
  | x :: t, v, st, last => by simp [decM, decM_length fixed t]
def gapM : List Int → List Int → List Int
  | x :: t, y :: u => (x - y) :: gapM t u
  | _, _ => []
theorem gapM_length : ∀ (l m : List Int), l.length = m.length → (gapM l m).length = l.length
  | [], m, _ => by cases m <;> simp [gapM]
  | x :: t, [], h => by simp at h
  | x :: t, y :: u, h => by
    simp at h
    simp [gapM, gapM_length t u h]
theorem codeM_val (fixed : Bool) : ∀ (l : List Int) (v st last : Int) (n : Int), 1 ≤ st → st ≤ 4096 → -4096 * n ≤ v → v ≤ 4096 * n → ∀ y ∈ (codeM fixed l v st last).map (·.2.1), -4096 * (n + l.length) ≤ y ∧ y ≤ 4096 * (n + l.length)
  | [], _, _, _, _, _, _, _, _, y, hy => by simp [codeM] at hy
  | x :: t, v, st, last, n, h0, h1, hv0, hv1, y, hy => by
    have hb := bitM_cases x v
    have hk := tkS_bd (last := last) (fixed := fixed) (bit := bitM x v) h0 h1
    have hm := mul_bit (st := tkS st last fixed (bitM x v)) hb
    simp only [codeM, List.map_cons, List.mem_cons] at hy
    rcases hy with rfl | hy
    · simp; omega
    · have := codeM_val fixed t _ _ _ (n + 1) hk.1 hk.2 (by omega) (by omega) y hy
      simp; omega
def stepOk (st : Int) : Bool := decide (1 ≤ st) && decide (st ≤ 4096)
theorem stepOk_iff {st : Int} : stepOk st = true ↔ 1 ≤ st ∧ st ≤ 4096 := by simp [stepOk]
def stepBits (l : List Int) (st : Int) : List Int × Bool := if sig l = true then (if stepOk st = true then ((codeM false l 0 st 0).map (·.1), true) else ([], false)) else ([], false)
def stepValues (l : List Int) (st : Int) : List Int × Bool := if isBits l = true then (if stepOk st = true then toldM ((decM false l 0 st 0).map (·.1)) else ([], false)) else ([], false)
def stepsOfBits (l : List Int) (st : Int) : List Int × Bool := if isBits l = true then (if stepOk st = true then toldM ((decM false l 0 st 0).map (·.2)) else ([], false)) else ([], false)
def fixedValues (l : List Int) (st : Int) : List Int × Bool := if isBits l = true then (if stepOk st = true then toldM ((decM true l 0 st 0).map (·.1)) else ([], false)) else ([], false)
def stepGaps (l : List Int) (st : Int) : List Int × Bool := if sig l = true then (if stepOk st = true then toldM (gapM l ((codeM false l 0 st 0).map (·.2.1))) else ([], false)) else ([], false)
def wts (l : List Int) : Bool := decide (1 ≤ l.length) && decide (l.length ≤ 9) && l.all fun x => decide (-1000 ≤ x) && decide (x ≤ 1000)
theorem wts_len {l : List Int} (h : wts l = true) : 1 ≤ l.length ∧ l.length ≤ 9 := by
  simp [wts] at h
  exact ⟨h.1.1, h.1.2⟩
theorem wts_mem {l : List Int} (h : wts l = true) : ∀ x ∈ l, -1000 ≤ x ∧ x ≤ 1000 := by
  simp [wts] at h
  exact h.2
def ratio (p q : Int) : Bool := (decide (1 ≤ p) && decide (p ≤ 8)) && (decide (1 ≤ q) && decide (q ≤ 8))
theorem ratio_iff {p q : Int} : ratio p q = true ↔ (1 ≤ p ∧ p ≤ 8) ∧ (1 ≤ q ∧ q ≤ 8) := by simp [ratio]
def rsOk (h l : List Int) (p q : Int) : Bool := wts h && ((sig l && ratio p q) && decide ((l.length : Int) * p ≤ 64))
def peakM : List Int → Nat → Nat
  | [], m => m
  | x :: t, m => peakM t (max m x.natAbs)

def cv : List Int → List Int → Nat → Int
  | [], _, _ => 0
  | w :: _, s, 0 => w * s.getD 0 0
  | w :: h, s, n + 1 => w * s.getD (n + 1) 0 + cv h s n
def Lf (f : Nat → Int) (N : Nat) : List Int := (List.range N).map f
theorem Lf_length (f : Nat → Int) (N : Nat) : (Lf f N).length = N := by simp [Lf]
theorem rd_Lf (f : Nat → Int) (N i : Nat) (h : i < N) : rd (Lf f N) (i : Int) = f i := by
  simp [rd, Lf, h]
theorem set_Lf (f : Nat → Int) (N i : Nat) (v : Int) : (Lf f N).set i v = Lf (fun n => if n = i then v else f n) N := by
  apply List.ext_getElem
  · simp [Lf]
  · intro n h1 h2
    simp [Lf, List.getElem_set]
    by_cases c : i = n
    · simp [c]
    · rw [if_neg c, if_neg (fun h => c h.symm)]
theorem Lf_congr {f g : Nat → Int} {N : Nat} (h : ∀ n, n < N → f n = g n) : Lf f N = Lf g N := by
  apply List.ext_getElem
  · simp [Lf]
  · intro n h1 h2
    simp [Lf] at h1 ⊢
    exact h n h1
theorem cv_snoc (s : List Int) (w : Int) : ∀ (p : List Int) (n : Nat), cv (p ++ [w]) s n = cv p s n + (if p.length ≤ n then w * s.getD (n - p.length) 0 else 0)
  | [], 0 => by simp [cv]
  | [], n + 1 => by simp [cv]
  | a :: p, 0 => by simp [cv]
  | a :: p, n + 1 => by
    simp only [List.cons_append, cv, cv_snoc s w p n, List.length_cons, Nat.add_le_add_iff_right, Nat.add_sub_add_right]
    omega
theorem getD_bd {s : List Int} {a M : Int} (hM : 0 ≤ M) (h : ∀ x ∈ s, -M ≤ a * x ∧ a * x ≤ M) (n : Nat) : -M ≤ a * s.getD n 0 ∧ a * s.getD n 0 ≤ M := by
  rw [List.getD_eq_getElem?_getD]
  by_cases c : n < s.length
  · rw [List.getElem?_eq_getElem c]
    exact h _ (List.getElem_mem c)
  · rw [List.getElem?_eq_none (by omega)]
    simp
    omega
theorem cv_bd {s : List Int} {M : Int} (hM : 0 ≤ M) : ∀ (h : List Int) (n : Nat), (∀ a ∈ h, ∀ x ∈ s, -M ≤ a * x ∧ a * x ≤ M) → -(h.length * M) ≤ cv h s n ∧ cv h s n ≤ h.length * M
  | [], n, hb => by simp [cv]
  | a :: h, 0, hb => by
    have h1 := getD_bd hM (hb a (by simp)) 0
    have h2 : 0 ≤ (h.length : Int) * M := Int.mul_nonneg (by omega) hM
    simp only [cv, List.length_cons, Int.natCast_add, Int.add_mul]
    omega
  | a :: h, n + 1, hb => by
    have h1 := getD_bd hM (hb a (by simp)) (n + 1)
    have h2 := cv_bd hM h n (fun b hbm => hb b (by simp [hbm]))
    simp only [cv, List.length_cons, Int.natCast_add, Int.add_mul]
    omega
def conv (h s : List Int) : List Int := if s = [] then [] else Lf (cv h s) (h.length + s.length - 1)
theorem conv_length (h s : List Int) (hs : s ≠ []) : (conv h s).length = h.length + s.length - 1 := by
  rw [conv, if_neg hs, Lf_length]
/-- what stands in the list when the weights p are done, and of the weight w the samples q -/
def cvi (p q s : List Int) (w : Int) (n : Nat) : Int := cv p s n + (if p.length ≤ n ∧ n - p.length < q.length then w * s.getD (n - p.length) 0 else 0)
theorem cvi_nil (p s : List Int) (w : Int) : cvi p [] s w = cv p s := by
  funext n
  simp [cvi]
theorem cvi_all (p s : List Int) (w : Int) (n : Nat) : cvi p s s w n = cv (p ++ [w]) s n := by
  rw [cv_snoc, cvi]
  by_cases c : p.length ≤ n
  · by_cases d : n - p.length < s.length
    · rw [if_pos ⟨c, d⟩, if_pos c]
    · rw [if_neg (fun h => d h.2), if_pos c, List.getD_eq_getElem?_getD, List.getElem?_eq_none (by omega)]
      simp
  · rw [if_neg (fun h => c h.1), if_neg c]
theorem getD_mid (q t : List Int) (x : Int) : (q ++ x :: t).getD q.length 0 = x := by simp
theorem cvi_step (p q t : List Int) (w x : Int) (n : Nat) : (if n = p.length + q.length then cvi p q (q ++ x :: t) w n + w * x else cvi p q (q ++ x :: t) w n) = cvi p (q ++ [x]) (q ++ x :: t) w n := by
  unfold cvi
  by_cases c : n = p.length + q.length
  · subst c
    have e : p.length + q.length - p.length = q.length := by omega
    rw [if_pos rfl, e, getD_mid, if_neg (by omega), if_pos ⟨by omega, by simp⟩]
    omega
  · rw [if_neg c]
    by_cases d : p.length ≤ n ∧ n - p.length < q.length
    · rw [if_pos d, if_pos ⟨d.1, by simp; omega⟩]
    · rw [if_neg d, if_neg (fun h => d ⟨h.1, by have := h.2; simp at this; omega⟩)]
theorem Lf_succ (f : Nat → Int) (n : Nat) : Lf f (n + 1) = Lf f n ++ [f n] := by simp [Lf, List.range_succ]
def dropN (len rate first : Nat) : Nat := (len - first + rate - 1) / rate
theorem dropN_lt {len rate first j : Nat} (hr : 1 ≤ rate) : j < dropN len rate first ↔ first + j * rate < len := by
  unfold dropN
  rw [Nat.lt_iff_add_one_le, Nat.le_div_iff_mul_le (by omega), Nat.add_mul]
  omega
def dropM (l : List Int) (rate first : Nat) : List Int := Lf (fun j => l.getD (first + j * rate) 0) (dropN l.length rate first)
theorem dropM_length (l : List Int) (rate first : Nat) : (dropM l rate first).length = dropN l.length rate first := Lf_length _ _
theorem dropN_le {len rate first : Nat} (hr : 1 ≤ rate) : dropN len rate first ≤ len := by
  apply Nat.le_of_not_lt
  intro h
  have := (dropN_lt hr).1 h
  have h2 : len * 1 ≤ len * rate := Nat.mul_le_mul_left len hr
  omega
def stuffM (p : Nat) : List Int → List Int
  | [] => []
  | x :: t => (x :: List.replicate (p - 1) 0) ++ stuffM p t
theorem stuffM_length (p : Nat) (hp : 1 ≤ p) : ∀ l : List Int, (stuffM p l).length = l.length * p
  | [] => by simp [stuffM]
  | x :: t => by
    simp only [stuffM, List.length_append, List.length_cons, List.length_replicate, stuffM_length p hp t, Nat.add_mul]
    omega
theorem stuffM_snoc (p : Nat) (x : Int) : ∀ l : List Int, stuffM p (l ++ [x]) = stuffM p l ++ (x :: List.replicate (p - 1) 0)
  | [] => by simp [stuffM]
  | y :: t => by simp [stuffM, stuffM_snoc p x t]
theorem rd_getD (l : List Int) (i : Nat) : rd l (i : Int) = l.getD i 0 := by simp [rd]
theorem stuffM_sig (p : Nat) : ∀ l : List Int, (∀ x ∈ l, -100000 ≤ x ∧ x ≤ 100000) → ∀ x ∈ stuffM p l, -100000 ≤ x ∧ x ≤ 100000
  | [], _, x, h => by simp [stuffM] at h
  | y :: t, hl, x, h => by
    simp only [stuffM, List.mem_append, List.mem_cons, List.mem_replicate] at h
    rcases h with (rfl | ⟨_, rfl⟩) | h
    · exact hl _ (by simp)
    · omega
    · exact stuffM_sig p t (fun z hz => hl z (by simp [hz])) x h
theorem sig_iff {l : List Int} : sig l = true ↔ l.length ≤ 64 ∧ ∀ x ∈ l, -100000 ≤ x ∧ x ≤ 100000 := by simp [sig]
theorem ediv_bd {x b : Int} (hb : 0 < b) (hx : -4611686018427387904 ≤ x ∧ x ≤ 4611686018427387904) : -4611686018427387905 ≤ x / b ∧ x / b ≤ 4611686018427387905 := by
  have h0 := Int.emod_nonneg x (show b ≠ 0 by omega)
  have h1 := Int.emod_lt_of_pos x hb
  have h2 := Int.emod_add_mul_ediv x b
  constructor
  · apply Int.not_lt.1
    intro h
    have : b * (x / b) ≤ 1 * (x / b) := Int.mul_le_mul_of_nonpos_right (by omega) (by omega)
    have h3 : b * (x / b) ≤ b * (-4611686018427387906) := Int.mul_le_mul_of_nonneg_left (by omega) (by omega)
    omega
  · apply Int.not_lt.1
    intro h
    have h3 : 1 * (x / b) ≤ b * (x / b) := Int.mul_le_mul_of_nonneg_right (by omega) (by omega)
    omega
def atM (s : List Int) (i : Int) : Int := if 0 ≤ i then s.getD i.toNat 0 else 0
theorem getD_all {l : List Int} {M : Int} (hM : 0 ≤ M) (h : ∀ x ∈ l, -M ≤ x ∧ x ≤ M) (n : Nat) : -M ≤ l.getD n 0 ∧ l.getD n 0 ≤ M := by
  rw [List.getD_eq_getElem?_getD]
  by_cases c : n < l.length
  · rw [List.getElem?_eq_getElem c]
    exact h _ (List.getElem_mem c)
  · rw [List.getElem?_eq_none (by omega)]
    simp
    omega
def totL : List (List Int) → Nat
  | [] => 0
  | x :: t => x.length + totL t

theorem spec_l1In_eq (a b c : Int) : spec_l1In.f a b c = some (decide (b ≤ a) && decide (a ≤ c)) := by
  unfold spec_l1In.f
  by_cases h : b ≤ a <;> simp [h]

theorem impl_in_eq (a b c : Int) : impl_in.f a b c = some (decide (b ≤ a) && decide (a ≤ c)) := by
  unfold impl_in.f
  by_cases h : b ≤ a <;> simp [h]

theorem spec_l1All_l0 (lo hi : Int) (l : List Int) (hl : l.length ≤ 140737488351232) : ∀ (t p : List Int), l = p ++ t → Ev (fun k => spec_l1All.l0 k lo hi l (l.length : Int) (p.length : Int)) (t.all fun x => decide (lo ≤ x) && decide (x ≤ hi))
  | [], p, h => by
    apply Ev.step (f := fun _ => some _)
    · intro k
      subst h
      simp [spec_l1All.l0]; rfl
    · exact Ev.now _
  | x :: t, p, h => by
    have e1 : (p.length : Int) < (l.length : Int) := by rw [h]; exact lt_mid p t x
    have e2 : rd l (p.length : Int) = x := by rw [h]; exact rd_mid p t x
    have e3 : wrap64 ((p.length : Int) + 1) = ((p ++ [x]).length : Int) := nx_mid p t x (h ▸ hl)
    by_cases c : (decide (lo ≤ x) && decide (x ≤ hi)) = true
    · refine Ev.to (Ev.step (fun k => ?_) (spec_l1All_l0 lo hi l hl t (p ++ [x]) (by simp [h]))) (by rw [List.all_cons, c, Bool.true_and])
      simp only [spec_l1All.l0, if_pos e1, if_pos (Int.natCast_nonneg _), e2, e3, spec_l1In_eq, Option.bind_some, if_pos c]
    · refine Ev.to (Ev.step (fun k => ?_) (Ev.now false)) (by rw [List.all_cons, Bool.eq_false_iff.mpr c, Bool.false_and])
      simp only [spec_l1All.l0, if_pos e1, if_pos (Int.natCast_nonneg _), e2, e3, spec_l1In_eq, Option.bind_some, if_neg c]
theorem spec_l1All_ev (l : List Int) (lo hi : Int) (hl : l.length ≤ 140737488351232) : Ev (fun k => spec_l1All.f k l lo hi) (l.all fun x => decide (lo ≤ x) && decide (x ≤ hi)) := by
  simpa [spec_l1All.f] using spec_l1All_l0 lo hi l hl l [] rfl

theorem spec_wdSignal_ev (l : List Int) (hl : l.length ≤ 140737488351232) : Ev (fun k => spec_wdSignal.f k l) (sig l) := by
  simp only [spec_wdSignal.f]
  by_cases c : (l.length : Int) ≤ 64
  · refine Ev.tt c (Ev.bind (spec_l1All_ev l (-100000) 100000 hl) (Ev.to (Ev.now _) ?_))
    simp [sig]; omega
  · refine Ev.ff c (Ev.to (Ev.now _) ?_)
    simp [sig]; omega

theorem impl_isSignal_c1_eq (x : Int) : impl_isSignal_c1.f x = some (!(decide (-100000 ≤ x) && decide (x ≤ 100000))) := by
  unfold impl_isSignal_c1.f
  rw [impl_in_eq]
  rfl
theorem indexSignal_l0 (l : List Int) (hl : l.length ≤ 140737488351232) : ∀ (t p : List Int), l = p ++ t → ∃ r, Ev (fun k => slices_IndexFunc_int_int_impl_isSignal_c1.l0 k l (l.length : Int) (p.length : Int)) r ∧ (decide (r ≥ 0) = !(t.all fun x => decide (-100000 ≤ x) && decide (x ≤ 100000)))
  | [], p, h => by
    refine ⟨-1, Ev.step (f := fun _ => some (-1)) ?_ (Ev.now _), by simp⟩
    intro k
    subst h
    simp [slices_IndexFunc_int_int_impl_isSignal_c1.l0]
  | x :: t, p, h => by
    have e1 : (p.length : Int) < (l.length : Int) := by rw [h]; exact lt_mid p t x
    have e2 : rd l (p.length : Int) = x := by rw [h]; exact rd_mid p t x
    have e3 : wrap64 ((p.length : Int) + 1) = ((p ++ [x]).length : Int) := nx_mid p t x (h ▸ hl)
    by_cases c : (decide (-100000 ≤ x) && decide (x ≤ 100000)) = true
    · obtain ⟨r, h1, h2⟩ := indexSignal_l0 l hl t (p ++ [x]) (by simp [h])
      refine ⟨r, Ev.step (fun k => ?_) h1, by rw [h2, List.all_cons, c, Bool.true_and]⟩
      simp only [slices_IndexFunc_int_int_impl_isSignal_c1.l0, if_pos e1, if_pos (Int.natCast_nonneg _), e2, e3, impl_isSignal_c1_eq, c, Option.bind_some, Bool.not_true]
      rfl
    · have c := Bool.eq_false_iff.mpr c
      refine ⟨(p.length : Int), Ev.step (fun k => ?_) (Ev.now _), by rw [List.all_cons, c]; simp⟩
      simp only [slices_IndexFunc_int_int_impl_isSignal_c1.l0, if_pos e1, if_pos (Int.natCast_nonneg _), e2, e3, impl_isSignal_c1_eq, c, Option.bind_some, Bool.not_false]
      rfl
theorem impl_isSignal_ev (l : List Int) (hl : l.length ≤ 140737488351232) : Ev (fun k => impl_isSignal.f k l) (sig l) := by
  simp only [impl_isSignal.f]
  by_cases c : (l.length : Int) ≤ 64
  · obtain ⟨r, h1, h2⟩ := indexSignal_l0 l hl l [] rfl
    refine Ev.tt c (Ev.bind (a := decide (r ≥ 0)) ?_ (Ev.to (Ev.now _) ?_))
    · simp only [slices_ContainsFunc_int_int_impl_isSignal_c1.f, slices_IndexFunc_int_int_impl_isSignal_c1.f]
      exact Ev.bind h1 (Ev.now _)
    · rw [h2]; simp [sig]; omega
  · refine Ev.ff c (Ev.to (Ev.now _) ?_)
    simp [sig]; omega

theorem spec_l1Abs_eq (x : Int) (h : -1000000000000000000 ≤ x ∧ x ≤ 1000000000000000000) : spec_l1Abs.f x = some (x.natAbs : Int) := by
  unfold spec_l1Abs.f spec_l1Most.f
  rw [w64 (n := -x) (by omega) (by omega)]
  by_cases c : x > -x
  · rw [if_pos c]; simp; omega
  · rw [if_neg c]; simp; omega

theorem impl_size_eq (x : Int) (h : -1000000000000000000 ≤ x ∧ x ≤ 1000000000000000000) : impl_size.f x = some (x.natAbs : Int) := by
  unfold impl_size.f mx
  rw [w64 (n := -x) (by omega) (by omega)]
  by_cases c : x < -x
  · rw [if_pos c]; simp; omega
  · rw [if_neg c]; simp; omega

/-- What a cursor gives: a value with P, and at most c steps further. -/
def Dr {α : Type} (P : α → Prop) (c : Int) (a : Int) (g : Option (α × Int × Int)) : Prop := ∃ v a' sd, g = some (v, a', sd) ∧ a ≤ a' ∧ a' ≤ a + c ∧ P v
theorem u64_bd (n : Int) : 0 ≤ IntKind.u64.wrap n ∧ IntKind.u64.wrap n < 18446744073709551616 := by
  simp only [IntKind.wrap, IntKind.bits, IntKind.signed]
  simp
  omega
theorem u64_and255 (x : Int) (h0 : 0 ≤ x) (h1 : x < 18446744073709551616) : Go.bits .and .u64 x 255 = x % 256 :=
  bits_mask .u64 64 (by decide) (fun n h0 h1 => by
    simp only [IntKind.wrap, IntKind.bits, IntKind.signed]
    simp
    omega) 8 (by decide) x h0 h1
def Bytes (l : List Int) : Prop := l.length ≤ 1048576 ∧ ∀ x ∈ l, 0 ≤ x ∧ x ≤ 255
theorem next_ok {l : List Int} (hl : Bytes l) (a sd : Int) (h0 : 0 ≤ a) (h1 : a ≤ 1000000000000000) : Dr (fun v => 0 ≤ v ∧ v ≤ 255) 1 a (spec_l1Cur_next.f l a sd) := by
  have hw : wrap64 (a + 1) = a + 1 := w64 (by omega) (by omega)
  have hm : ∀ y : Int, 0 ≤ wrap64 (Go.bits .and .u64 (IntKind.u64.wrap y / 1099511627776) 255) ∧ wrap64 (Go.bits .and .u64 (IntKind.u64.wrap y / 1099511627776) 255) ≤ 255 := by
    intro y
    have hy := u64_bd y
    rw [u64_and255 _ (by omega) (by omega), w64 (n := IntKind.u64.wrap y / 1099511627776 % 256) (by omega) (by omega)]
    omega
  unfold spec_l1Cur_next.f
  by_cases c : a < (l.length : Int)
  · have hr : 0 ≤ rd l a ∧ rd l a ≤ 255 := by
      obtain ⟨n, rfl⟩ : ∃ n : Nat, a = (n : Int) := ⟨a.toNat, by omega⟩
      have hn : n < l.length := by omega
      rw [rd_getD, List.getD_eq_getElem?_getD, List.getElem?_eq_getElem hn]
      exact hl.2 _ (List.getElem_mem hn)
    rw [if_pos c, if_pos h0, hw, if_pos (by omega), w64 (n := rd l a) (by omega) (by omega)]
    exact ⟨_, _, _, rfl, by omega, by omega, hr⟩
  · rw [if_neg c, hw]
    by_cases d : a + 1 ≤ (l.length : Int)
    · omega
    · rw [if_neg d]
      exact ⟨_, _, _, rfl, by omega, by omega, hm _⟩

theorem pick_ok {l : List Int} (hl : Bytes l) (a sd n : Int) (h0 : 0 ≤ a) (h1 : a ≤ 100000000000000) (hn : n ≤ 1000000) : Dr (fun v => 0 ≤ v ∧ (v < n ∨ v = 0)) 2 a (spec_l1Cur_pick.f l a sd n) := by
  unfold spec_l1Cur_pick.f
  by_cases c : n ≤ 1
  · rw [if_pos c]
    exact ⟨_, _, _, rfl, by omega, by omega, by omega, .inr rfl⟩
  · rw [if_neg c]
    obtain ⟨v, a', sd', e, ha, hb, hv⟩ := next_ok hl a sd h0 (by omega)
    rw [e]
    simp only [Option.bind_some]
    have hn0 : ¬ n = 0 := by omega
    by_cases d : n > 200
    · rw [if_pos d]
      obtain ⟨v2, a2, sd2, e2, ha2, hb2, hv2⟩ := next_ok hl a' sd' (by omega) (by omega)
      rw [e2]
      simp only [Option.bind_some]
      rw [if_neg hn0, w64 (n := v * 256) (by omega) (by omega), w64 (n := v * 256 + v2) (by omega) (by omega), Int.tmod_eq_emod_of_nonneg (by omega)]
      have := Int.emod_nonneg (v * 256 + v2) hn0
      have := Int.emod_lt_of_pos (v * 256 + v2) (show 0 < n by omega)
      exact ⟨_, _, _, rfl, by omega, by omega, by omega, .inl (by omega)⟩
    · rw [if_neg d, if_neg hn0, Int.tmod_eq_emod_of_nonneg (by omega)]
      have := Int.emod_nonneg v hn0
      have := Int.emod_lt_of_pos v (show 0 < n by omega)
      exact ⟨_, _, _, rfl, by omega, by omega, by omega, .inl (by omega)⟩

theorem among_ok {l : List Int} (hl : Bytes l) (a sd : Int) (m : List Int) (h0 : 0 ≤ a) (h1 : a ≤ 100000000000000) (hm : 1 ≤ m.length) (hm2 : m.length ≤ 1000) : Dr (fun v => v ∈ m) 2 a (spec_l1Cur_among.f l a sd m) := by
  unfold spec_l1Cur_among.f
  obtain ⟨v, a', sd', e, ha, hb, hv, hv2⟩ := pick_ok hl a sd (m.length : Int) h0 h1 (by omega)
  rw [e]
  simp only [Option.bind_some]
  rw [if_pos hv, if_pos (by omega)]
  refine ⟨_, _, _, rfl, ha, hb, ?_⟩
  obtain ⟨n, rfl⟩ : ∃ n : Nat, v = (n : Int) := ⟨v.toNat, by omega⟩
  have hn : n < m.length := by omega
  rw [rd_getD, List.getD_eq_getElem?_getD, List.getElem?_eq_getElem hn]
  exact List.getElem_mem hn

theorem one_ok {l : List Int} (hl : Bytes l) (a sd n : Int) (h0 : 0 ≤ a) (h1 : a ≤ 100000000000000) (hn : n ≤ 1000000) : Dr (fun _ => True) 2 a (spec_l1Cur_one.f l a sd n) := by
  unfold spec_l1Cur_one.f
  obtain ⟨v, a', sd', e, ha, hb, hv, hv2⟩ := pick_ok hl a sd n h0 h1 hn
  rw [e]
  simp only [Option.bind_some]
  exact ⟨_, _, _, rfl, ha, hb, trivial⟩

theorem number_ok {l : List Int} (hl : Bytes l) (a sd : Int) (h0 : 0 ≤ a) (h1 : a ≤ 10000000000000) : Dr (fun v => -4611686018427387904 ≤ v ∧ v ≤ 4611686018427387904) 10 a (spec_l1Cur_number.f l a sd) := by
  unfold spec_l1Cur_number.f
  obtain ⟨v, a1, sd1, e, ha, hb, hv⟩ := pick_ok hl a sd 14 h0 (by omega) (by omega)
  rw [e]
  simp only [Option.bind_some]
  by_cases c : v = 0
  · rw [if_pos c]
    obtain ⟨u, a2, sd2, e2, ha2, hb2, hu⟩ := among_ok hl a1 sd1 [1000000000000, (-1000000000000), 1000000000001, (-4611686018427387904), 549755813888] (by omega) (by omega) (by simp) (by simp)
    rw [e2]
    simp only [Option.bind_some]
    refine ⟨_, _, _, rfl, by omega, by omega, ?_⟩
    simp at hu
    rcases hu with rfl | rfl | rfl | rfl | rfl <;> decide
  · rw [if_neg c]
    by_cases d : v = 1
    · rw [if_pos d]
      obtain ⟨u, a2, sd2, e2, ha2, hb2, hu, hu2⟩ := pick_ok hl a1 sd1 256 (by omega) (by omega) (by omega)
      rw [e2]
      simp only [Option.bind_some]
      obtain ⟨u3, a3, sd3, e3, ha3, hb3, hu3, hu4⟩ := pick_ok hl a2 sd2 256 (by omega) (by omega) (by omega)
      rw [e3]
      simp only [Option.bind_some]
      refine ⟨_, _, _, rfl, by omega, by omega, ?_⟩
      rw [w64 (n := u * 256) (by omega) (by omega), w64 (n := u * 256 + u3) (by omega) (by omega), w64 (n := (u * 256 + u3) * 256) (by omega) (by omega), w64 (n := (u * 256 + u3) * 256 - 5000000) (by omega) (by omega)]
      omega
    · rw [if_neg d]
      obtain ⟨u, a2, sd2, e2, ha2, hb2, hu, hu2⟩ := pick_ok hl a1 sd1 200 (by omega) (by omega) (by omega)
      rw [e2]
      simp only [Option.bind_some]
      refine ⟨_, _, _, rfl, by omega, by omega, ?_⟩
      rw [w64 (n := u - 100) (by omega) (by omega)]
      omega

theorem laws_big_eq (l m : List Int) (hl : l.length ≤ 140737488355328) (hm : m.length ≤ 140737488355328) : laws_big.f l m = some (decide (1048576 < l.length + m.length)) := by
  unfold laws_big.f
  by_cases c : (l.length : Int) > 1048576
  · rw [if_pos c]
    simp; omega
  · rw [if_neg c, w64 (n := 1048576 - (l.length : Int)) (by omega) (by omega)]
    simp; omega
theorem bytes_of {l : List Int} (h : l.length ≤ 1048576) (hx : ∀ x ∈ l, (Lit.int .u8 x).wf = true) : Bytes l := by
  refine ⟨h, fun x hxl => ?_⟩
  have := hx x hxl
  simp [Lit.wf, IntKind.min, IntKind.max, IntKind.signed, IntKind.bits] at this
  omega

/-- A number shifted: down, to the nearest one, towards 0. -/
def shM (x b mode : Int) : Int := if mode = 1 ∧ b ≤ 2 * (x % b) ∧ 0 < x % b then x / b + 1 else if mode = 2 ∧ x < 0 ∧ 0 < x % b then x / b + 1 else x / b
theorem div_uniq {x b q r : Int} (h : x = q * b + r) (h0 : 0 ≤ r) (h1 : r < b) : x / b = q := by
  have hb : 0 < b := by omega
  exact ((Int.ediv_emod_unique hb).2 ⟨by rw [h, Int.mul_comm]; omega, h0, h1⟩).1
theorem pow2_pos (s : Nat) : (0 : Int) < 2 ^ s := Int.pow_pos (by decide)
theorem pow2_le {s : Nat} (h : s ≤ 20) : (2 : Int) ^ s ≤ 1048576 := by
  have h1 : (2 : Nat) ^ s ≤ 2 ^ 20 := Nat.pow_le_pow_right (by decide) h
  have h3 : (2 : Int) ^ s = (((2 : Nat) ^ s : Nat) : Int) := by simp
  rw [h3]
  have h2 : (2 : Nat) ^ 20 = 1048576 := by decide
  omega
theorem shl_one {s : Nat} (h : s ≤ 20) : shl .i64 1 (s : Int) = 2 ^ s := by
  unfold shl
  have h1 : min ((s : Int)).toNat IntKind.i64.bits = s := by
    simp [IntKind.bits]; omega
  rw [h1, Int.one_mul, IntKind.wrap_i64]
  have := pow2_pos s
  have := pow2_le h
  omega
theorem shl_mul {s : Nat} (h : s ≤ 20) (y : Int) (h1 : -9223372036854775808 ≤ y * 2 ^ s) (h2 : y * 2 ^ s ≤ 9223372036854775807) : shl .i64 y (s : Int) = y * 2 ^ s := by
  unfold shl
  have e : min ((s : Int)).toNat IntKind.i64.bits = s := by
    simp [IntKind.bits]; omega
  rw [e, IntKind.wrap_i64]
  omega
theorem shr_div {s : Nat} (h : s ≤ 20) (y : Int) : shr .i64 y (s : Int) = y / 2 ^ s := by
  unfold shr
  have e : min ((s : Int)).toNat IntKind.i64.bits = s := by
    simp [IntKind.bits]; omega
  rw [e]
theorem mod_eq (x b : Int) : x = (x / b) * b + x % b := by
  have := Int.emod_add_mul_ediv x b
  rw [Int.mul_comm] at this
  omega

theorem impl_shifted_ev (x : Int) (s : Nat) (mode : Int) (hs : s ≤ 20) (hx : -4611686018427387904 ≤ x ∧ x ≤ 4611686018427387904) : Ev (fun k => impl_shifted.f k x (s : Int) mode) (shM x (2 ^ s) mode) := by
  have hb := pow2_pos s
  have hb2 := pow2_le hs
  have hr0 := Int.emod_nonneg x (show (2 : Int) ^ s ≠ 0 by omega)
  have hr1 := Int.emod_lt_of_pos x hb
  have hd := mod_eq x (2 ^ s)
  simp only [impl_shifted.f]
  by_cases c : mode = 1
  · refine Ev.tt c ?_
    by_cases d : (s : Int) > 0
    · obtain ⟨m, rfl⟩ : ∃ m, s = m + 1 := ⟨s - 1, by omega⟩
      have e1 : wrap64 (((m + 1 : Nat) : Int) - 1) = (m : Int) := by
        rw [w64 (n := ((m + 1 : Nat) : Int) - 1) (by omega) (by omega)]
        omega
      have hp : (2 : Int) ^ (m + 1) = 2 * 2 ^ m := by rw [Int.pow_succ]; omega
      have hpm := pow2_pos m
      have e2 : wrap64 (x + 2 ^ m) = x + 2 ^ m := w64 (by omega) (by omega)
      refine Ev.step (f := fun _ => some (shM x (2 ^ (m + 1)) mode)) (fun k => ?_) (Ev.now _)
      simp only [impl_shifted.j0, e1, shl_one (s := m) (by omega), e2, shr_div hs]
      rw [if_pos (by simp), if_pos (Int.natCast_nonneg _), if_pos (Int.natCast_nonneg _)]
      congr 1
      unfold shM
      by_cases g : (2 : Int) ^ (m + 1) ≤ 2 * (x % 2 ^ (m + 1)) ∧ 0 < x % 2 ^ (m + 1)
      · rw [if_pos ⟨c, g⟩]
        refine div_uniq (r := x % 2 ^ (m + 1) - 2 ^ m) ?_ (by omega) (by omega)
        rw [Int.add_mul]
        omega
      · rw [if_neg (fun h => g h.2), if_neg (fun h => by omega)]
        refine div_uniq (r := x % 2 ^ (m + 1) + 2 ^ m) (by omega) (by omega) (by omega)
    · have e : s = 0 := by omega
      subst e
      refine Ev.step (f := fun _ => some (shM x (2 ^ 0) mode)) (fun k => ?_) (Ev.now _)
      simp only [impl_shifted.j0, shr_div (s := 0) (by omega)]
      rw [if_neg (by simp), if_neg (by omega), if_pos (by omega)]
      congr 1
      unfold shM
      rw [if_neg (fun h => by have := h.2.2; simp at this), if_neg (fun h => by omega)]
  · refine Ev.ff c ?_
    refine Ev.step (f := fun _ => some (shM x (2 ^ s) mode)) (fun k => ?_) (Ev.now _)
    simp only [impl_shifted.j0, shr_div hs]
    rw [if_neg (by decide)]
    have hS : shM x (2 ^ s) mode = if mode = 2 ∧ x < 0 ∧ 0 < x % 2 ^ s then x / 2 ^ s + 1 else x / 2 ^ s := by
      unfold shM
      rw [if_neg (fun h => c h.1)]
    rw [hS]
    clear hS
    by_cases d : mode = 2
    · rw [if_pos d]
      by_cases g : x < 0
      · rw [if_pos g, if_pos (Int.natCast_nonneg _), w64 (n := -x) (by omega) (by omega)]
        by_cases r : 0 < x % 2 ^ s
        · rw [if_pos ⟨d, g, r⟩]
          have e : (-x) / 2 ^ s = -(x / 2 ^ s) - 1 := by
            refine div_uniq (r := 2 ^ s - x % 2 ^ s) ?_ (by omega) (by omega)
            rw [Int.sub_mul, Int.neg_mul]
            omega
          have hq : -4611686018427387905 ≤ x / 2 ^ s ∧ x / 2 ^ s ≤ 4611686018427387905 := ediv_bd hb hx
          rw [e, w64 (n := -(-(x / 2 ^ s) - 1)) (by omega) (by omega)]
          congr 1
          omega
        · rw [if_neg (fun h => r h.2.2)]
          have e : (-x) / 2 ^ s = -(x / 2 ^ s) := by
            refine div_uniq (r := 0) ?_ (by omega) (by omega)
            rw [Int.neg_mul]
            omega
          have hq : -4611686018427387905 ≤ x / 2 ^ s ∧ x / 2 ^ s ≤ 4611686018427387905 := ediv_bd hb hx
          rw [e, w64 (n := -(-(x / 2 ^ s))) (by omega) (by omega)]
          congr 1
          omega
      · rw [if_neg g, if_pos (Int.natCast_nonneg _), if_neg (fun h => g h.2.1)]
    · rw [if_neg d, if_pos (Int.natCast_nonneg _), if_neg (fun h => d h.1)]

theorem spec_wdShift_ev (x : Int) (s : Nat) (mode : Int) (hs : s ≤ 20) (hx : -4611686018427387904 ≤ x ∧ x ≤ 4611686018427387904) : Ev (fun k => spec_wdShift.f k x (s : Int) mode) (shM x (2 ^ s) mode) := by
  have hb := pow2_pos s
  have hb2 := pow2_le hs
  have hr0 := Int.emod_nonneg x (show (2 : Int) ^ s ≠ 0 by omega)
  have hr1 := Int.emod_lt_of_pos x hb
  have hd := mod_eq x (2 ^ s)
  have hq : -4611686018427387905 ≤ x / 2 ^ s ∧ x / 2 ^ s ≤ 4611686018427387905 := ediv_bd hb hx
  have key : ∀ d : Int, d = x / 2 ^ s → Ev (fun k => spec_wdShift.j0 k x mode (2 ^ s) d) (shM x (2 ^ s) mode) := by
    intro d e
    subst e
    have e1 : wrap64 (x / 2 ^ s * 2 ^ s) = x / 2 ^ s * 2 ^ s := w64 (by omega) (by omega)
    have e2 : wrap64 (x - x / 2 ^ s * 2 ^ s) = x % 2 ^ s := by
      rw [w64 (n := x - x / 2 ^ s * 2 ^ s) (by omega) (by omega)]
      omega
    have e3 : wrap64 (2 * (x % 2 ^ s)) = 2 * (x % 2 ^ s) := w64 (by omega) (by omega)
    have e4 : wrap64 (x / 2 ^ s + 1) = x / 2 ^ s + 1 := w64 (by omega) (by omega)
    have j1 : ∀ f : Bool, (f = true ↔ mode = 1 ∧ 2 ^ s ≤ 2 * (x % 2 ^ s) ∧ 0 < x % 2 ^ s) → Ev (fun k => spec_wdShift.j1 k x mode (x / 2 ^ s) (x % 2 ^ s) f) (shM x (2 ^ s) mode) := by
      intro f hf
      refine Ev.step (f := fun _ => some (shM x (2 ^ s) mode)) (fun k => ?_) (Ev.now _)
      simp only [spec_wdShift.j1, e4]
      unfold shM
      by_cases g : f = true
      · rw [if_pos g, if_pos (hf.1 g)]
      · rw [if_neg g, if_neg (fun h => g (hf.2 h))]
        by_cases m2 : mode = 2
        · rw [if_pos m2]
          by_cases x0 : x < 0
          · rw [if_pos x0]
            by_cases r0 : x % 2 ^ s > 0
            · rw [if_pos r0, if_pos ⟨m2, x0, r0⟩]
            · rw [if_neg r0, if_neg (fun h => r0 h.2.2)]
          · rw [if_neg x0, if_neg (fun h => x0 h.2.1)]
        · rw [if_neg m2, if_neg (fun h => m2 h.1)]
    by_cases m1 : mode = 1
    · by_cases g : 2 * (x % 2 ^ s) ≥ 2 ^ s
      · refine Ev.step (fun k => ?_) (j1 (decide (x % 2 ^ s > 0)) (by simp only [decide_eq_true_eq]; exact ⟨fun h => ⟨m1, g, h⟩, fun h => h.2.2⟩))
        simp only [spec_wdShift.j0, e1, e2, e3, if_pos m1, if_pos g]
      · refine Ev.step (fun k => ?_) (j1 false (by simp; intro _ h; omega))
        simp only [spec_wdShift.j0, e1, e2, e3, if_pos m1, if_neg g]
    · refine Ev.step (fun k => ?_) (j1 false (by simp; intro h; exact absurd h m1))
      simp only [spec_wdShift.j0, e1, e2, e3, if_neg m1]
  simp only [spec_wdShift.f, shl_one hs]
  refine Ev.tt (Int.natCast_nonneg _) (Ev.ff (by omega) ?_)
  by_cases g : Int.tmod x (2 ^ s) < 0
  · refine Ev.tt g (key _ ?_)
    have hx0 : x < 0 := by
      apply Int.not_le.1
      intro h
      have := Int.tmod_nonneg (2 ^ s) h
      omega
    have e := Int.tdiv_eq_ediv (a := x) (b := 2 ^ s)
    have e0 : ¬ (0 ≤ x ∨ (2 : Int) ^ s ∣ x) := by
      rintro (h | h)
      · omega
      · rw [Int.tmod_eq_zero_of_dvd h] at g
        omega
    rw [if_neg e0, Int.sign_eq_one_of_pos hb] at e
    rw [e, w64 (n := x / 2 ^ s + 1) (by omega) (by omega), w64 (n := x / 2 ^ s + 1 - 1) (by omega) (by omega)]
    omega
  · refine Ev.ff g (key _ ?_)
    have e := Int.tdiv_eq_ediv (a := x) (b := 2 ^ s)
    have e0 : 0 ≤ x ∨ (2 : Int) ^ s ∣ x := by
      by_cases h : 0 ≤ x
      · exact .inl h
      · right
        have h2 : Int.tmod x (2 ^ s) ≤ 0 := by
          have := Int.tmod_nonneg (2 ^ s) (show 0 ≤ -x by omega)
          rw [Int.neg_tmod] at this
          omega
        exact Int.dvd_of_tmod_eq_zero (by omega)
    rw [if_pos e0] at e
    rw [e, w64 (n := x / 2 ^ s + 0) (by omega) (by omega)]
    omega

def numOk (x : Int) : Bool := decide (-1000000000000 ≤ x) && decide (x ≤ 1000000000000)
def modeOk (s mode : Int) : Bool := (decide (0 ≤ s) && decide (s ≤ 20)) && (decide (0 ≤ mode) && decide (mode ≤ 2))
theorem numOk_iff {x : Int} : numOk x = true ↔ -1000000000000 ≤ x ∧ x ≤ 1000000000000 := by simp [numOk]
theorem modeOk_iff {s m : Int} : modeOk s m = true ↔ (0 ≤ s ∧ s ≤ 20) ∧ (0 ≤ m ∧ m ≤ 2) := by simp [modeOk]

theorem impl_isNumber_eq (x : Int) : impl_isNumber.f x = some (numOk x) := by
  unfold impl_isNumber.f
  rw [impl_in_eq]
  rfl

def roundM (x s mode : Int) : Int × Bool := if numOk x = true then (if modeOk s mode = true then (shM x (2 ^ s.toNat) mode, true) else (0, false)) else (0, false)
theorem impl_isShift_eq (s m : Int) : impl_isShift.f s m = some (modeOk s m) := by
  unfold impl_isShift.f modeOk
  rw [impl_in_eq]
  simp only [Option.bind_some, impl_in_eq]
  by_cases c : (decide (0 ≤ s) && decide (s ≤ 20)) = true
  · rw [if_pos c, c, Bool.true_and]
  · rw [if_neg c, Bool.eq_false_iff.mpr c, Bool.false_and]
theorem impl_RoundShift_ev (x s m : Int) : Ev (fun k => impl_RoundShift.f k x s m) (roundM x s m) := by
  simp only [impl_RoundShift.f, roundM]
  refine Ev.dbind (impl_isNumber_eq x) ?_
  by_cases c : numOk x = true
  · rw [if_pos c]
    refine Ev.tt c (Ev.dbind (impl_isShift_eq s m) ?_)
    by_cases d : modeOk s m = true
    · rw [if_pos d]
      have d' := modeOk_iff.1 d
      have c' := numOk_iff.1 c
      obtain ⟨n, rfl⟩ : ∃ n : Nat, s = (n : Int) := ⟨s.toNat, by omega⟩
      rw [Int.toNat_natCast]
      exact Ev.tt d (Ev.bind (impl_shifted_ev x n m (by omega) (by omega)) (Ev.now _))
    · rw [if_neg d]
      exact Ev.ff d (Ev.now _)
  · rw [if_neg c]
    exact Ev.ff c (Ev.now _)

theorem spec_wdNumber_eq (x : Int) : spec_wdNumber.f x = some (numOk x) := by
  unfold spec_wdNumber.f
  rw [spec_l1In_eq]
  rfl

theorem spec_wdMode_eq (s m : Int) : spec_wdMode.f s m = some (modeOk s m) := by
  unfold spec_wdMode.f modeOk
  rw [spec_l1In_eq]
  simp only [Option.bind_some, spec_l1In_eq]
  by_cases c : (decide (0 ≤ s) && decide (s ≤ 20)) = true
  · rw [if_pos c, c, Bool.true_and]
  · rw [if_neg c, Bool.eq_false_iff.mpr c, Bool.false_and]

def goodB (b : Int) : Bool := decide (2 ≤ b) && decide (b ≤ 16)
def hf (b : Int) : Int := 2 ^ (b - 1).toNat
def fitH (h : Int) (w : Bool) (x : Int) : Int := if w = true then (x + h) % (2 * h) - h else if x < -h then -h else if h - 1 < x then h - 1 else x
theorem goodB_iff {b : Int} : goodB b = true ↔ 2 ≤ b ∧ b ≤ 16 := by simp [goodB]
theorem half {b : Int} (g : goodB b = true) : (2 ≤ hf b ∧ hf b ≤ 32768) ∧ wrap64 (b - 1) = b - 1 ∧ 0 ≤ b - 1 ∧ shl .i64 1 (b - 1) = hf b ∧ 0 ≤ b ∧ shl .i64 1 b = 2 * hf b := by
  have g' := goodB_iff.1 g
  obtain ⟨n, rfl⟩ : ∃ n : Nat, b = ((n + 1 : Nat) : Int) := ⟨(b - 1).toNat, by omega⟩
  have e : ((n + 1 : Nat) : Int) - 1 = (n : Int) := by omega
  have eh : hf ((n + 1 : Nat) : Int) = 2 ^ n := by rw [hf, e, Int.toNat_natCast]
  have h1 : (2 : Nat) ^ n ≤ 2 ^ 15 := Nat.pow_le_pow_right (by decide) (by omega)
  have h2 : (2 : Nat) ^ 1 ≤ 2 ^ n := Nat.pow_le_pow_right (by decide) (by omega)
  have h3 : (2 : Int) ^ n = (((2 : Nat) ^ n : Nat) : Int) := by simp
  have h4 : (2 : Nat) ^ 15 = 32768 := by decide
  have h5 : (2 : Nat) ^ 1 = 2 := by decide
  rw [eh, e, shl_one (s := n) (by omega), shl_one (s := n + 1) (by omega), Int.pow_succ]
  refine ⟨⟨by omega, by omega⟩, w64 (by omega) (by omega), by omega, rfl, by omega, by omega⟩
theorem mod_uniq {x b q r : Int} (h : x = q * b + r) (h0 : 0 ≤ r) (h1 : r < b) : x % b = r := by
  have hb : 0 < b := by omega
  exact ((Int.ediv_emod_unique (q := q) hb).2 ⟨by rw [h, Int.mul_comm]; omega, h0, h1⟩).2
theorem tmod_fix (a n : Int) (hn : 0 < n) (hn2 : n ≤ 1000000000) : Int.tmod (wrap64 (Int.tmod a n + n)) n = a % n := by
  have h0 := Int.emod_nonneg a (show n ≠ 0 by omega)
  have h1 := Int.emod_lt_of_pos a hn
  have e := Int.tmod_eq_emod (a := a) (b := n)
  have hb : Int.tmod a n = a % n ∨ Int.tmod a n = a % n - n := by
    rw [e]
    split
    · left; omega
    · right; omega
  rcases hb with hb | hb
  · rw [hb, w64 (n := a % n + n) (by omega) (by omega), Int.tmod_eq_emod_of_nonneg (by omega)]
    simp
  · rw [hb, Int.sub_add_cancel, w64 (n := a % n) (by omega) (by omega), Int.tmod_eq_emod_of_nonneg (by omega)]
    simp
theorem fitH_bd (h : Int) (w : Bool) (x : Int) (hh : 1 ≤ h) : -h ≤ fitH h w x ∧ fitH h w x ≤ h - 1 := by
  have h0 := Int.emod_nonneg (x + h) (show 2 * h ≠ 0 by omega)
  have h1 := Int.emod_lt_of_pos (x + h) (show 0 < 2 * h by omega)
  unfold fitH
  split
  · omega
  · split
    · omega
    · split <;> omega
theorem fitH_id (h : Int) (w : Bool) (x : Int) (h0 : -h ≤ x) (h1 : x ≤ h - 1) : fitH h w x = x := by
  unfold fitH
  by_cases c : w = true
  · rw [if_pos c, mod_uniq (x := x + h) (b := 2 * h) (q := 0) (r := x + h) (by omega) (by omega) (by omega)]
    omega
  · rw [if_neg c, if_neg (by omega), if_neg (by omega)]
theorem fitH_two (h x : Int) (hh : 1 ≤ h) : fitH h true x = if x % (2 * h) > h - 1 then x % (2 * h) - 2 * h else x % (2 * h) := by
  have h0 := Int.emod_nonneg x (show 2 * h ≠ 0 by omega)
  have h1 := Int.emod_lt_of_pos x (show 0 < 2 * h by omega)
  have hd := mod_eq x (2 * h)
  unfold fitH
  rw [if_pos rfl]
  split
  · rw [mod_uniq (x := x + h) (b := 2 * h) (q := x / (2 * h) + 1) (r := x % (2 * h) - h) (by rw [Int.add_mul]; omega) (by omega) (by omega)]
    omega
  · rw [mod_uniq (x := x + h) (b := 2 * h) (q := x / (2 * h)) (r := x % (2 * h) + h) (by omega) (by omega) (by omega)]
    omega
theorem fit_back (h x y : Int) (h0 : -h ≤ x) (h1 : x ≤ h - 1) : fitH h true (fitH h true (x + y) - y) = x := by
  have hd := mod_eq (x + y + h) (2 * h)
  have e : fitH h true (x + y) - y = x - (x + y + h) / (2 * h) * (2 * h) := by
    unfold fitH
    rw [if_pos rfl]
    omega
  rw [e]
  unfold fitH
  rw [if_pos rfl, mod_uniq (x := x - (x + y + h) / (2 * h) * (2 * h) + h) (b := 2 * h) (q := -((x + y + h) / (2 * h))) (r := x + h) (by rw [Int.neg_mul]; omega) (by omega) (by omega)]
  omega
theorem fit_dvd (h x : Int) : ∃ q, x - fitH h true x = 2 * h * q := by
  have hd := mod_eq (x + h) (2 * h)
  refine ⟨(x + h) / (2 * h), ?_⟩
  unfold fitH
  rw [if_pos rfl, Int.mul_comm (2 * h)]
  omega
def inW (b x : Int) : Bool := decide (-(hf b) ≤ x) && decide (x ≤ hf b - 1)
theorem inW_iff {b x : Int} : inW b x = true ↔ -(hf b) ≤ x ∧ x ≤ hf b - 1 := by simp [inW]
theorem ediv_in {x b M : Int} (hb : 0 < b) (hM : 0 ≤ M) (hx : -M ≤ x ∧ x ≤ M) : -M ≤ x / b ∧ x / b ≤ M := by
  have h1 : (-M) * b ≤ (-M) * 1 := Int.mul_le_mul_of_nonpos_left (by omega) (by omega)
  have h2 : M * 1 ≤ M * b := Int.mul_le_mul_of_nonneg_left (by omega) hM
  exact ⟨Int.le_ediv_of_mul_le hb (by omega), Int.ediv_le_of_le_mul hb (by omega)⟩
theorem shM_in {x b M : Int} (m : Int) (hb : 0 < b) (hM : 0 ≤ M) (hx : -M ≤ x ∧ x ≤ M) : -M ≤ shM x b m ∧ shM x b m ≤ M + 1 := by
  have := ediv_in hb hM hx
  unfold shM
  split
  · omega
  · split <;> omega

theorem impl_isWord_eq (b : Int) (w : Bool) : impl_isWord.f b w = some (goodB b) := by
  unfold impl_isWord.f
  rw [impl_in_eq]
  rfl

theorem spec_wdGood_eq (b : Int) (w : Bool) : spec_wdGood.f b w = some (goodB b) := by
  unfold spec_wdGood.f
  rw [spec_l1In_eq]
  rfl

theorem impl_Word_ends_eq {b : Int} (w : Bool) (g : goodB b = true) : impl_Word_ends.f b w = some (-(hf b), hf b - 1) := by
  obtain ⟨h1, h2, h3, h4, h5, h6⟩ := half g
  unfold impl_Word_ends.f
  rw [h2, if_pos h3, h4, w64 (n := -(hf b)) (by omega) (by omega), w64 (n := hf b - 1) (by omega) (by omega)]

theorem impl_mod_eq (a n : Int) (hn : 0 < n) (hn2 : n ≤ 1000000000) : impl_mod.f a n = some (a % n) := by
  unfold impl_mod.f
  rw [if_neg (by omega), tmod_fix a n hn hn2]
theorem impl_Word_fit_eq {b : Int} (w : Bool) (x : Int) (g : goodB b = true) (hx : -4611686018427387904 ≤ x ∧ x ≤ 4611686018427387904) : impl_Word_fit.f b w x = some (fitH (hf b) w x) := by
  obtain ⟨h1, h2, h3, h4, h5, h6⟩ := half g
  have m0 := Int.emod_nonneg (x + hf b) (show 2 * hf b ≠ 0 by omega)
  have m1 := Int.emod_lt_of_pos (x + hf b) (show 0 < 2 * hf b by omega)
  have e1 : x - -(hf b) = x + hf b := by omega
  have e2 : hf b - 1 - -(hf b) = 2 * hf b - 1 := by omega
  have e3 : 2 * hf b - 1 + 1 = 2 * hf b := by omega
  unfold impl_Word_fit.f fitH
  rw [impl_Word_ends_eq w g]
  simp only [Option.bind_some]
  by_cases c : w = true
  · rw [if_pos c, if_pos c, e1, w64 (n := x + hf b) (by omega) (by omega), e2, w64 (n := 2 * hf b - 1) (by omega) (by omega), e3, w64 (n := 2 * hf b) (by omega) (by omega), impl_mod_eq _ _ (by omega) (by omega)]
    simp only [Option.bind_some]
    rw [w64 (n := (x + hf b) % (2 * hf b) + -(hf b)) (by omega) (by omega)]
    congr 1
  · rw [if_neg c, if_neg c]
    congr 1
    unfold mn mx
    repeat' split
    all_goals omega

theorem spec_wdHigh_eq {b : Int} (w : Bool) (g : goodB b = true) : spec_wdHigh.f b w = some (hf b - 1) := by
  obtain ⟨h1, h2, h3, h4, h5, h6⟩ := half g
  unfold spec_wdHigh.f
  rw [h2, if_pos h3, h4, w64 (n := hf b - 1) (by omega) (by omega)]

theorem spec_wdLow_eq {b : Int} (w : Bool) (g : goodB b = true) : spec_wdLow.f b w = some (-(hf b)) := by
  obtain ⟨h1, h2, h3, h4, h5, h6⟩ := half g
  unfold spec_wdLow.f
  rw [h2, if_pos h3, h4, w64 (n := -(hf b)) (by omega) (by omega)]

theorem spec_wdFit_eq {b : Int} (w : Bool) (x : Int) (g : goodB b = true) : spec_wdFit.f b w x = some (fitH (hf b) w x) := by
  obtain ⟨h1, h2, h3, h4, h5, h6⟩ := half g
  unfold spec_wdFit.f
  by_cases c : w = true
  · have m0 := Int.emod_nonneg x (show 2 * hf b ≠ 0 by omega)
    have m1 := Int.emod_lt_of_pos x (show 0 < 2 * hf b by omega)
    rw [if_pos c, if_pos h5, h6, if_neg (by omega), spec_wdHigh_eq w g, tmod_fix x _ (by omega) (by omega)]
    simp only [Option.bind_some]
    rw [c, fitH_two _ _ (by omega)]
    by_cases d : x % (2 * hf b) > hf b - 1
    · rw [if_pos d, if_pos d, w64 (n := x % (2 * hf b) - 2 * hf b) (by omega) (by omega)]
    · rw [if_neg d, if_neg d]
  · rw [if_neg c, spec_wdHigh_eq w g, spec_wdLow_eq w g]
    simp only [Option.bind_some, spec_l1Most.f, spec_l1Least.f]
    unfold fitH
    rw [if_neg c]
    by_cases d : -(hf b) > x
    · rw [if_pos d]
      simp only [Option.bind_some]
      rw [if_neg (show ¬ hf b - 1 < -(hf b) by omega), if_pos (show x < -(hf b) by omega)]
      rfl
    · rw [if_neg d]
      simp only [Option.bind_some]
      rw [if_neg (show ¬ x < -(hf b) by omega)]
      by_cases e : hf b - 1 < x
      · rw [if_pos e, if_pos e]
        rfl
      · rw [if_neg e, if_neg e]
        rfl

def fitN (b : Int) (w : Bool) (x : Int) : Int × Bool := if goodB b = true then (if numOk x = true then (fitH (hf b) w x, true) else (0, false)) else (0, false)
theorem impl_FitNumber_eq (b : Int) (w : Bool) (x : Int) : impl_FitNumber.f b w x = some (fitN b w x) := by
  unfold impl_FitNumber.f fitN
  rw [impl_isWord_eq]
  simp only [Option.bind_some]
  by_cases g : goodB b = true
  · rw [if_pos g, if_pos g, impl_isNumber_eq]
    simp only [Option.bind_some]
    by_cases n : numOk x = true
    · have n' := numOk_iff.1 n
      rw [if_pos n, if_pos n, impl_Word_fit_eq w x g (by omega)]
      rfl
    · rw [if_neg n, if_neg n]
  · rw [if_neg g, if_neg g]

theorem impl_Word_has_eq {b : Int} (w : Bool) (x : Int) (g : goodB b = true) : impl_Word_has.f b w x = some (inW b x) := by
  unfold impl_Word_has.f
  rw [impl_Word_ends_eq w g]
  simp only [Option.bind_some, impl_in_eq]
  rfl

theorem spec_wdIn_eq (b : Int) (w : Bool) (x : Int) : spec_wdIn.f b w x = some (if goodB b = true then inW b x else false) := by
  unfold spec_wdIn.f
  rw [spec_wdGood_eq]
  simp only [Option.bind_some]
  by_cases g : goodB b = true
  · rw [if_pos g, if_pos g, spec_wdLow_eq w g, spec_wdHigh_eq w g]
    simp only [Option.bind_some, spec_l1In_eq]
    rfl
  · rw [if_neg g, if_neg g]

theorem word_ok {l : List Int} (hl : Bytes l) (a sd : Int) (h0 : 0 ≤ a) (h1 : a ≤ 10000000000000) : ∃ b w a' sd', spec_l1Cur_word.f l a sd = some (b, w, a', sd') ∧ a ≤ a' ∧ a' ≤ a + 10 := by
  unfold spec_l1Cur_word.f
  obtain ⟨v, a1, sd1, e1, ha1, hb1, -⟩ := one_ok hl a sd 12 h0 (by omega) (by omega)
  rw [e1]
  simp only [Option.bind_some]
  by_cases c : v = true
  · rw [if_pos c]
    obtain ⟨u, a2, sd2, e2, ha2, hb2, -⟩ := among_ok hl a1 sd1 [(-1), 1, 2, 16, 17, 4611686018427387904] (by omega) (by omega) (by simp) (by simp)
    rw [e2]
    simp only [Option.bind_some]
    obtain ⟨u3, a3, sd3, e3, ha3, hb3, -⟩ := one_ok hl a2 sd2 2 (by omega) (by omega) (by omega)
    rw [e3]
    simp only [Option.bind_some]
    exact ⟨_, _, _, _, rfl, by omega, by omega⟩
  · rw [if_neg c]
    obtain ⟨u, a2, sd2, e2, ha2, hb2, -⟩ := pick_ok hl a1 sd1 7 (by omega) (by omega) (by omega)
    rw [e2]
    simp only [Option.bind_some]
    obtain ⟨u3, a3, sd3, e3, ha3, hb3, -⟩ := one_ok hl a2 sd2 2 (by omega) (by omega) (by omega)
    rw [e3]
    simp only [Option.bind_some]
    exact ⟨_, _, _, _, rfl, by omega, by omega⟩

theorem inWord_ok {l : List Int} (hl : Bytes l) (a sd : Int) (b : Int) (w : Bool) (h0 : 0 ≤ a) (h1 : a ≤ 1000000000000) : ∃ v a' sd', Ev (fun k => spec_l1Cur_inWord.f k l a sd b w) (v, a', sd') ∧ a ≤ a' ∧ a' ≤ a + 20 ∧ (-4611686018427387904 ≤ v ∧ v ≤ 4611686018427387904) := by
  have plain : ∀ a sd : Int, 0 ≤ a → a ≤ 2000000000000 → ∃ v a' sd', Ev (fun k => spec_l1Cur_inWord.j0 k true l a sd b w) (v, a', sd') ∧ a ≤ a' ∧ a' ≤ a + 10 ∧ (-4611686018427387904 ≤ v ∧ v ≤ 4611686018427387904) := by
    intro a sd h0 h1
    obtain ⟨v, a1, sd1, e1, ha1, hb1, hv⟩ := number_ok hl a sd h0 (by omega)
    refine ⟨v, a1, sd1, ?_, ha1, hb1, hv⟩
    refine Ev.step (f := fun _ => some (v, a1, sd1)) (fun k => ?_) (Ev.now _)
    simp only [spec_l1Cur_inWord.j0, e1, Option.bind_some]
    rfl
  simp only [spec_l1Cur_inWord.f, spec_wdGood_eq, Option.bind_some]
  by_cases g : goodB b = true
  · obtain ⟨g1, g2, g3, g4, g5, g6⟩ := half g
    obtain ⟨v, a1, sd1, e1, ha1, hb1, -⟩ := one_ok hl a sd 12 h0 (by omega) (by omega)
    by_cases c : v = true
    · subst c
      obtain ⟨v, a', sd', h, ha, hb, hv⟩ := plain a1 sd1 (by omega) (by omega)
      exact ⟨v, a', sd', Ev.tt g (by simpa only [e1, Option.bind_some] using h), by omega, by omega, hv⟩
    · obtain ⟨u, a2, sd2, e2, ha2, hb2, hu, hu2⟩ := pick_ok hl a1 sd1 5 (by omega) (by omega) (by omega)
      by_cases d : u = 0
      · refine ⟨-(hf b), a2, sd2, Ev.tt g ?_, by omega, by omega, by omega, by omega⟩
        simp only [e1, Option.bind_some]
        refine Ev.step (f := fun _ => some (-(hf b), a2, sd2)) (fun k => ?_) (Ev.now _)
        simp only [spec_l1Cur_inWord.j0, if_neg c, e2, Option.bind_some, if_pos d, spec_wdLow_eq w g]
      · by_cases d1 : u = 1
        · refine ⟨hf b - 1, a2, sd2, Ev.tt g ?_, by omega, by omega, by omega, by omega⟩
          simp only [e1, Option.bind_some]
          refine Ev.step (f := fun _ => some (hf b - 1, a2, sd2)) (fun k => ?_) (Ev.now _)
          simp only [spec_l1Cur_inWord.j0, if_neg c, e2, Option.bind_some, if_neg d, if_pos d1, spec_wdHigh_eq w g]
        · obtain ⟨z, a3, sd3, e3, ha3, hb3, hz, hz2⟩ := pick_ok hl a2 sd2 256 (by omega) (by omega) (by omega)
          have m0 := Int.emod_nonneg (z * 257) (show 2 * hf b ≠ 0 by omega)
          have m1 := Int.emod_lt_of_pos (z * 257) (show 0 < 2 * hf b by omega)
          refine ⟨-(hf b) + (z * 257) % (2 * hf b), a3, sd3, Ev.tt g ?_, by omega, by omega, by omega, by omega⟩
          simp only [e1, Option.bind_some]
          refine Ev.step (f := fun _ => some (-(hf b) + (z * 257) % (2 * hf b), a3, sd3)) (fun k => ?_) (Ev.now _)
          simp only [spec_l1Cur_inWord.j0, if_neg c, e2, Option.bind_some, if_neg d, if_neg d1, spec_wdLow_eq w g, e3, if_pos g5, g6]
          rw [if_neg (by omega), w64 (n := z * 257) (by omega) (by omega), Int.tmod_eq_emod_of_nonneg (by omega), w64 (n := -(hf b) + z * 257 % (2 * hf b)) (by omega) (by omega)]
  · obtain ⟨v, a', sd', h, ha, hb, hv⟩ := plain a sd h0 (by omega)
    exact ⟨v, a', sd', Ev.ff g h, by omega, by omega, hv⟩

theorem signal_l0 {l : List Int} (hl : Bytes l) (sz : Int) (hs : 1 ≤ sz ∧ sz ≤ 100000) : ∀ (n : Nat) (q : List Int) (a sd : Int), q.length + n ≤ 100000 → 0 ≤ a → a + 10 * n ≤ 100000000000 → ∃ s a' sd', Ev (fun k => spec_l1Cur_signal.l0 k sz q (n : Int) l a sd) (s, a', sd') ∧ s.length ≤ 100001 ∧ a ≤ a' ∧ a' ≤ a + 10 * n + 10
  | 0, q, a, sd, hq, h0, h1 => by
    obtain ⟨u, a1, sd1, e1, ha1, hb1, -⟩ := pick_ok hl a sd 16 h0 (by omega) (by omega)
    by_cases c : u = 0
    · obtain ⟨v, a2, sd2, e2, ha2, hb2, -⟩ := among_ok hl a1 sd1 [100000, (-100000), 100001, 4611686018427387904] (by omega) (by omega) (by simp) (by simp)
      refine ⟨q ++ [v], a2, sd2, Ev.step (f := fun _ => some (q ++ [v], a2, sd2)) (fun k => ?_) (Ev.now _), by simp; omega, by omega, by omega⟩
      simp only [spec_l1Cur_signal.l0, e1, e2, Option.bind_some, if_pos c]
      rw [if_neg (by omega), if_pos (by omega)]
    · by_cases d : u = 1
      · obtain ⟨v, a2, sd2, e2, ha2, hb2, hv, hv2⟩ := pick_ok hl a1 sd1 2 (by omega) (by omega) (by omega)
        have e3 : wrap64 (64 + v) = 64 + v := w64 (by omega) (by omega)
        refine ⟨List.replicate (64 + v).toNat 0, a2, sd2, Ev.step (f := fun _ => some (List.replicate (64 + v).toNat 0, a2, sd2)) (fun k => ?_) (Ev.now _), by simp; omega, by omega, by omega⟩
        simp only [spec_l1Cur_signal.l0, e1, e2, Option.bind_some, if_neg c, if_pos d, e3]
        rw [if_neg (by omega), if_pos (by omega), if_pos (by omega)]
      · refine ⟨q, a1, sd1, Ev.step (f := fun _ => some (q, a1, sd1)) (fun k => ?_) (Ev.now _), by omega, by omega, by omega⟩
        simp only [spec_l1Cur_signal.l0, e1, Option.bind_some, if_neg c, if_neg d]
        rw [if_neg (by omega)]
  | n + 1, q, a, sd, hq, h0, h1 => by
    obtain ⟨u, a1, sd1, e1, ha1, hb1, -⟩ := one_ok hl a sd 4 h0 (by omega) (by omega)
    have e3 : wrap64 (((n + 1 : Nat) : Int) - 1) = (n : Int) := by
      rw [w64 (n := ((n + 1 : Nat) : Int) - 1) (by omega) (by omega)]
      omega
    have hn : ((n + 1 : Nat) : Int) > 0 := by omega
    have hql : q.length < 17592186044416 := by omega
    by_cases c : u = true
    · obtain ⟨s, a', sd', h, hs1, ha, hb⟩ := signal_l0 hl sz hs n (q ++ [0]) a1 sd1 (by simp; omega) (by omega) (by omega)
      refine ⟨s, a', sd', Ev.step (fun k => ?_) h, hs1, by omega, by omega⟩
      simp only [spec_l1Cur_signal.l0, e1, Option.bind_some, if_pos c, if_pos hn, if_pos hql, e3]
    · have e4 : wrap64 (wrap64 (2 * sz) + 1) = 2 * sz + 1 := by
        rw [w64 (n := 2 * sz) (by omega) (by omega), w64 (n := 2 * sz + 1) (by omega) (by omega)]
      obtain ⟨v, a2, sd2, e2, ha2, hb2, -⟩ := pick_ok hl a1 sd1 (2 * sz + 1) (by omega) (by omega) (by omega)
      obtain ⟨s, a', sd', h, hs1, ha, hb⟩ := signal_l0 hl sz hs n (q ++ [wrap64 (v - sz)]) a2 sd2 (by simp; omega) (by omega) (by omega)
      refine ⟨s, a', sd', Ev.step (fun k => ?_) h, hs1, by omega, by omega⟩
      simp only [spec_l1Cur_signal.l0, e1, Option.bind_some, if_neg c, if_pos hn, e4, e2, if_pos hql, e3]
theorem signal_ok {l : List Int} (hl : Bytes l) (a sd most sz : Int) (h0 : 0 ≤ a) (h1 : a ≤ 1000000000) (hm : 0 ≤ most ∧ most ≤ 10000) (hs : 1 ≤ sz ∧ sz ≤ 100000) : ∃ s a' sd', Ev (fun k => spec_l1Cur_signal.f k l a sd most sz) (s, a', sd') ∧ s.length ≤ 100001 ∧ a ≤ a' ∧ a' ≤ a + 1000000 := by
  obtain ⟨u, a1, sd1, e1, ha1, hb1, hu, hu2⟩ := pick_ok hl a sd (most + 1) h0 (by omega) (by omega)
  obtain ⟨n, rfl⟩ : ∃ n : Nat, u = (n : Int) := ⟨u.toNat, by omega⟩
  obtain ⟨s, a', sd', h, hs1, ha, hb⟩ := signal_l0 hl sz hs n [] a1 sd1 (by simp; omega) (by omega) (by omega)
  refine ⟨s, a', sd', ?_, hs1, by omega, by omega⟩
  simp only [spec_l1Cur_signal.f]
  rw [w64 (n := most + 1) (by omega) (by omega)]
  exact Ev.dbind e1 h

def foOk (a sh m b : Int) : Bool := (((decide (-1024 ≤ a) && decide (a ≤ 1024)) && (decide (0 ≤ sh) && decide (sh ≤ 10))) && (decide (0 ≤ m) && decide (m ≤ 2))) && goodB b
theorem foOk_iff {a sh m b : Int} : foOk a sh m b = true ↔ (-1024 ≤ a ∧ a ≤ 1024) ∧ (0 ≤ sh ∧ sh ≤ 10) ∧ (0 ≤ m ∧ m ≤ 2) ∧ goodB b = true := by
  simp [foOk, and_assoc]
def foRw (a sh m y x : Int) : Int := shM (a * y) (2 ^ sh.toNat) m + x
def foM (a sh m b : Int) (w : Bool) : List Int → Int → List Int
  | [], _ => []
  | x :: t, y => fitH (hf b) w (foRw a sh m y x) :: foM a sh m b w t (fitH (hf b) w (foRw a sh m y x))
theorem foM_length (a sh m b : Int) (w : Bool) : ∀ (l : List Int) (y : Int), (foM a sh m b w l y).length = l.length
  | [], _ => rfl
  | x :: t, y => by simp [foM, foM_length a sh m b w t]
theorem ay_in {a b y : Int} (g : goodB b = true) (ha : -1024 ≤ a ∧ a ≤ 1024) (hy : -(hf b) ≤ y ∧ y ≤ hf b - 1) : -33554432 ≤ a * y ∧ a * y ≤ 33554432 := by
  have h := (half g).1
  have h1 : (a.natAbs * y.natAbs : Nat) ≤ 1024 * 32768 := Nat.mul_le_mul (by omega) (by omega)
  have h2 := Int.natAbs_mul a y
  omega
theorem foRw_in {a sh m b y x : Int} (ok : foOk a sh m b = true) (hy : -(hf b) ≤ y ∧ y ≤ hf b - 1) (hx : -100000 ≤ x ∧ x ≤ 100000) : (-33554432 ≤ shM (a * y) (2 ^ sh.toNat) m ∧ shM (a * y) (2 ^ sh.toNat) m ≤ 33554433) ∧ (-40000000 ≤ foRw a sh m y x ∧ foRw a sh m y x ≤ 40000000) := by
  obtain ⟨h1, h2, h3, h4⟩ := foOk_iff.1 ok
  have := shM_in (M := 33554432) m (pow2_pos sh.toNat) (by omega) (ay_in h4 h1 hy)
  unfold foRw
  omega

theorem spec_foGood_eq (a sh m b : Int) (w : Bool) : spec_foGood.f a sh m b w = some (foOk a sh m b) := by
  unfold spec_foGood.f foOk
  simp only [spec_l1In_eq, spec_wdMode_eq, spec_wdGood_eq, Option.bind_some]
  by_cases c1 : (decide (-1024 ≤ a) && decide (a ≤ 1024)) = true
  · rw [if_pos c1, c1]
    by_cases c2 : (decide (0 ≤ sh) && decide (sh ≤ 10)) = true
    · rw [if_pos c2, c2]
      have c2' : 0 ≤ sh ∧ sh ≤ 10 := by simpa using c2
      by_cases c3 : (decide (0 ≤ m) && decide (m ≤ 2)) = true
      · have c3' : 0 ≤ m ∧ m ≤ 2 := by simpa using c3
        rw [if_pos (modeOk_iff.2 ⟨by omega, c3'⟩), c3]
        rfl
      · rw [if_neg (fun h => c3 (by have := (modeOk_iff.1 h).2; simpa using this)), Bool.eq_false_iff.mpr c3]
        rfl
    · rw [if_neg c2, Bool.eq_false_iff.mpr c2]
      simp
  · rw [if_neg c1, Bool.eq_false_iff.mpr c1]
    simp

theorem impl_isFirst_eq (a sh m b : Int) (w : Bool) : impl_isFirst.f a sh m b w = some (foOk a sh m b) := by
  unfold impl_isFirst.f impl_isFactor.f impl_isScale.f foOk
  simp only [impl_in_eq, impl_isWord_eq, Option.bind_some]
  by_cases c1 : (decide (-1024 ≤ a) && decide (a ≤ 1024)) = true
  · rw [if_pos c1, c1]
    by_cases c2 : (decide (0 ≤ sh) && decide (sh ≤ 10)) = true
    · rw [if_pos c2, c2]
      simp only [Option.bind_some]
      by_cases c3 : (decide (0 ≤ m) && decide (m ≤ 2)) = true
      · rw [if_pos c3, c3]
        rfl
      · rw [if_neg c3, Bool.eq_false_iff.mpr c3]
        rfl
    · rw [if_neg c2, Bool.eq_false_iff.mpr c2]
      simp
  · rw [if_neg c1, Bool.eq_false_iff.mpr c1]
    simp

theorem spec_foRun_l0 (a sh m b : Int) (w : Bool) (ok : foOk a sh m b = true) (l : List Int) (hl : l.length ≤ 1000000) (hb : ∀ x ∈ l, -100000 ≤ x ∧ x ≤ 100000) : ∀ (t p q : List Int) (y c : Int), l = p ++ t → q.length = p.length → -(hf b) ≤ y → y ≤ hf b - 1 →
    ∃ c', Ev (fun k => spec_foRun.l0 k y q c l (l.length : Int) (p.length : Int) a sh m b w) (q ++ foM a sh m b w t y, c')
  | [], p, q, y, c, h, hq, h0, h1 => by
    refine ⟨c, Ev.to (Ev.step (f := fun _ => some (q, c)) (fun k => ?_) (Ev.now _)) (by simp [foM])⟩
    subst h
    simp [spec_foRun.l0]
  | x :: t, p, q, y, c, h, hq, h0, h1 => by
    have e1 : (p.length : Int) < (l.length : Int) := by rw [h]; exact lt_mid p t x
    have e2 : rd l (p.length : Int) = x := by rw [h]; exact rd_mid p t x
    have e3 : wrap64 ((p.length : Int) + 1) = ((p ++ [x]).length : Int) := nx_mid p t x (by rw [← h]; omega)
    have hx := hb x (by rw [h]; simp)
    have hpl : p.length ≤ 1000000 := by rw [h] at hl; simp at hl; omega
    obtain ⟨k1, k2, k3, g⟩ := foOk_iff.1 ok
    have hr := foRw_in ok ⟨h0, h1⟩ hx
    have hay := ay_in g k1 ⟨h0, h1⟩
    have hf1 := fitH_bd (hf b) w (foRw a sh m y x) (by have := (half g).1; omega)
    have hraw : Ev (fun k => spec_foRaw.f k a sh m b w y x) (foRw a sh m y x) := by
      obtain ⟨n, rfl⟩ : ∃ n : Nat, sh = (n : Int) := ⟨sh.toNat, by omega⟩
      rw [Int.toNat_natCast] at hr
      simp only [spec_foRaw.f]
      rw [w64 (n := a * y) (by omega) (by omega)]
      refine Ev.bind (spec_wdShift_ev (a * y) n m (by omega) (by omega)) (Ev.to (Ev.now _) ?_)
      rw [w64 (n := shM (a * y) (2 ^ n) m + x) (by omega) (by omega), foRw, Int.toNat_natCast]
    have hql : q.length < 17592186044416 := by omega
    by_cases d : fitH (hf b) w (foRw a sh m y x) = foRw a sh m y x
    · obtain ⟨c', hc⟩ := spec_foRun_l0 a sh m b w ok l hl hb t (p ++ [x]) (q ++ [fitH (hf b) w (foRw a sh m y x)]) (fitH (hf b) w (foRw a sh m y x)) c (by simp [h]) (by simp [hq]) hf1.1 hf1.2
      refine ⟨c', Ev.to (Ev.step (fun k => by simp only [spec_foRun.l0]; rfl) ?_) (show (q ++ [fitH (hf b) w (foRw a sh m y x)] ++ foM a sh m b w t (fitH (hf b) w (foRw a sh m y x)), c') = _ by simp [foM])⟩
      rw [e2, e3]
      exact Ev.tt e1 (Ev.tt (Int.natCast_nonneg _) (Ev.tt e1 (Ev.bind hraw (Ev.dbind (spec_wdFit_eq w _ g) (Ev.tt d (Ev.tt hql hc))))))
    · obtain ⟨c', hc⟩ := spec_foRun_l0 a sh m b w ok l hl hb t (p ++ [x]) (q ++ [fitH (hf b) w (foRw a sh m y x)]) (fitH (hf b) w (foRw a sh m y x)) (wrap64 (c + 1)) (by simp [h]) (by simp [hq]) hf1.1 hf1.2
      refine ⟨c', Ev.to (Ev.step (fun k => by simp only [spec_foRun.l0]; rfl) ?_) (show (q ++ [fitH (hf b) w (foRw a sh m y x)] ++ foM a sh m b w t (fitH (hf b) w (foRw a sh m y x)), c') = _ by simp [foM])⟩
      rw [e2, e3]
      exact Ev.tt e1 (Ev.tt (Int.natCast_nonneg _) (Ev.tt e1 (Ev.bind hraw (Ev.dbind (spec_wdFit_eq w _ g) (Ev.ff d (Ev.tt hql hc))))))
theorem spec_foRun_ev (a sh m b : Int) (w : Bool) (ok : foOk a sh m b = true) (l : List Int) (hl : l.length ≤ 1000000) (hb : ∀ x ∈ l, -100000 ≤ x ∧ x ≤ 100000) (y : Int) (h0 : -(hf b) ≤ y) (h1 : y ≤ hf b - 1) : ∃ c, Ev (fun k => spec_foRun.f k a sh m b w y l) (foM a sh m b w l y, c) := by
  obtain ⟨c, h⟩ := spec_foRun_l0 a sh m b w ok l hl hb l [] [] y 0 rfl rfl h0 h1
  exact ⟨c, by simpa [spec_foRun.f] using h⟩

theorem impl_First_run_l0 (a sh m b : Int) (w : Bool) (ok : foOk a sh m b = true) (l : List Int) (hl : l.length ≤ 1000000) (hb : ∀ x ∈ l, -100000 ≤ x ∧ x ≤ 100000) : ∀ (t p q : List Int) (y : Int), l = p ++ t → q.length = p.length → -(hf b) ≤ y → y ≤ hf b - 1 →
    Ev (fun k => impl_First_run.l0 k y q l (l.length : Int) (p.length : Int) a sh m b w) (q ++ foM a sh m b w t y)
  | [], p, q, y, h, hq, h0, h1 => by
    refine Ev.to (Ev.step (f := fun _ => some q) (fun k => ?_) (Ev.now _)) (by simp [foM])
    subst h
    simp [impl_First_run.l0]
  | x :: t, p, q, y, h, hq, h0, h1 => by
    have e1 : (p.length : Int) < (l.length : Int) := by rw [h]; exact lt_mid p t x
    have e2 : rd l (p.length : Int) = x := by rw [h]; exact rd_mid p t x
    have e3 : wrap64 ((p.length : Int) + 1) = ((p ++ [x]).length : Int) := nx_mid p t x (by rw [← h]; omega)
    have hx := hb x (by rw [h]; simp)
    have hpl : p.length ≤ 1000000 := by rw [h] at hl; simp at hl; omega
    obtain ⟨k1, k2, k3, g⟩ := foOk_iff.1 ok
    have hr := foRw_in ok ⟨h0, h1⟩ hx
    have hay := ay_in g k1 ⟨h0, h1⟩
    have hf1 := fitH_bd (hf b) w (foRw a sh m y x) (by have := (half g).1; omega)
    have hstep : Ev (fun k => impl_First_step.f k a sh m b w y x) (fitH (hf b) w (foRw a sh m y x)) := by
      have hraw : Ev (fun k => impl_First_raw.f k a sh m b w y x) (foRw a sh m y x) := by
        obtain ⟨n, rfl⟩ : ∃ n : Nat, sh = (n : Int) := ⟨sh.toNat, by omega⟩
        rw [Int.toNat_natCast] at hr
        simp only [impl_First_raw.f]
        rw [w64 (n := a * y) (by omega) (by omega)]
        refine Ev.bind (impl_shifted_ev (a * y) n m (by omega) (by omega)) (Ev.to (Ev.now _) ?_)
        rw [w64 (n := shM (a * y) (2 ^ n) m + x) (by omega) (by omega), foRw, Int.toNat_natCast]
      simp only [impl_First_step.f]
      exact Ev.bind hraw (Ev.dbind (impl_Word_fit_eq w _ g (by omega)) (Ev.now _))
    have hql : q.length < 17592186044416 := by omega
    refine Ev.to (Ev.step (fun k => by simp only [impl_First_run.l0]; rfl) ?_) (show (q ++ [fitH (hf b) w (foRw a sh m y x)]) ++ foM a sh m b w t (fitH (hf b) w (foRw a sh m y x)) = _ by simp [foM])
    rw [e2, e3]
    exact Ev.tt e1 (Ev.tt (Int.natCast_nonneg _) (Ev.tt e1 (Ev.bind hstep (Ev.tt hql (impl_First_run_l0 a sh m b w ok l hl hb t (p ++ [x]) (q ++ [fitH (hf b) w (foRw a sh m y x)]) _ (by simp [h]) (by simp [hq]) hf1.1 hf1.2)))))
theorem impl_First_run_ev (a sh m b : Int) (w : Bool) (ok : foOk a sh m b = true) (l : List Int) (hl : l.length ≤ 1000000) (hb : ∀ x ∈ l, -100000 ≤ x ∧ x ≤ 100000) (y : Int) (h0 : -(hf b) ≤ y) (h1 : y ≤ hf b - 1) : Ev (fun k => impl_First_run.f k a sh m b w y l) (foM a sh m b w l y) := by
  have h := impl_First_run_l0 a sh m b w ok l hl hb l [] [] y rfl rfl h0 h1
  simpa [impl_First_run.f] using h

theorem spec_foAsked_eq (a sh m b : Int) (w : Bool) (y x : Int) : spec_foAsked.f a sh m b w y x = some (foOk a sh m b && inW b y && (decide (-100000 ≤ x) && decide (x ≤ 100000))) := by
  unfold spec_foAsked.f
  simp only [spec_foGood_eq, spec_wdIn_eq, spec_l1In_eq, Option.bind_some]
  by_cases c : foOk a sh m b = true
  · have g := (foOk_iff.1 c).2.2.2
    rw [if_pos c, if_pos g, c, Bool.true_and]
    by_cases d : inW b y = true
    · rw [if_pos d, d, Bool.true_and]
    · rw [if_neg d, Bool.eq_false_iff.mpr d, Bool.false_and]
  · rw [if_neg c, Bool.eq_false_iff.mpr c, Bool.false_and, Bool.false_and]

def runFirstM (a sh m b : Int) (w : Bool) (y : Int) (l : List Int) : List Int × Bool := if foOk a sh m b = true ∧ inW b y = true ∧ sig l = true then (foM a sh m b w l y, true) else ([], false)
theorem spec_RunFirst_ev (a sh m b : Int) (w : Bool) (y : Int) (l : List Int) (hl : l.length ≤ 10000000) : Ev (fun k => spec_RunFirst.f k a sh m b w y l) (runFirstM a sh m b w y l) := by
  simp only [spec_RunFirst.f, spec_foAsked_eq, Option.bind_some, runFirstM]
  by_cases c : foOk a sh m b = true ∧ inW b y = true
  · refine Ev.tt (by rw [c.1, c.2]; rfl) (Ev.bind (spec_wdSignal_ev l (by omega)) ?_)
    by_cases d : sig l = true
    · have y' := inW_iff.1 c.2
      have hs := sig_len d
      obtain ⟨cc, h⟩ := spec_foRun_ev a sh m b w c.1 l (by omega) (sig_mem d) y y'.1 y'.2
      rw [if_pos ⟨c.1, c.2, d⟩]
      exact Ev.tt d (Ev.bind h (Ev.now _))
    · rw [if_neg (fun h => d h.2.2)]
      exact Ev.ff d (Ev.now _)
  · rw [if_neg (fun h => c ⟨h.1, h.2.1⟩)]
    refine Ev.ff (fun h => c ?_) (Ev.now _)
    simp only [Bool.and_eq_true] at h
    exact h.1
theorem impl_RunFirst_ev (a sh m b : Int) (w : Bool) (y : Int) (l : List Int) (hl : l.length ≤ 10000000) : Ev (fun k => impl_RunFirst.f k a sh m b w y l) (runFirstM a sh m b w y l) := by
  simp only [impl_RunFirst.f, impl_First_isAt.f, impl_isFirst_eq, Option.bind_some, runFirstM]
  by_cases c : foOk a sh m b = true
  · have g := (foOk_iff.1 c).2.2.2
    rw [if_pos c, impl_Word_has_eq w y g]
    simp only [Option.bind_some]
    by_cases e : inW b y = true
    · refine Ev.tt e (Ev.bind (impl_isSignal_ev l (by omega)) ?_)
      by_cases d : sig l = true
      · have y' := inW_iff.1 e
        have hs := sig_len d
        rw [if_pos ⟨c, e, d⟩]
        exact Ev.tt d (Ev.bind (impl_First_run_ev a sh m b w c l (by omega) (sig_mem d) y y'.1 y'.2) (Ev.now _))
      · rw [if_neg (fun h => d h.2.2)]
        exact Ev.ff d (Ev.now _)
    · rw [if_neg (fun h => e h.2.1)]
      exact Ev.ff e (Ev.now _)
  · rw [if_neg c, if_neg (fun h => c h.1)]
    simp only [Option.bind_some]
    exact Ev.ff (by decide) (Ev.now _)

def impL (x n : Int) : List Int := if n > 0 then (List.replicate n.toNat (0 : Int)).set (0 : Int).toNat x else List.replicate n.toNat (0 : Int)
theorem impL_in {x n : Int} (hx : -100000 ≤ x ∧ x ≤ 100000) : ∀ z ∈ impL x n, -100000 ≤ z ∧ z ≤ 100000 := by
  intro z hz
  unfold impL at hz
  split at hz
  · rcases List.mem_or_eq_of_mem_set hz with h | rfl
    · have := List.eq_of_mem_replicate h
      omega
    · exact hx
  · have := List.eq_of_mem_replicate hz
    omega
theorem impL_length (x n : Int) : (impL x n).length = n.toNat := by
  unfold impL
  split <;> simp
def impOk (a sh m b x n : Int) : Bool := foOk a sh m b && (decide (-100000 ≤ x) && decide (x ≤ 100000)) && (decide (0 ≤ n) && decide (n ≤ 64))
def impulseM (a sh m b : Int) (w : Bool) (x n : Int) : List Int × Bool := if impOk a sh m b x n = true then (foM a sh m b w (impL x n) 0, true) else ([], false)
theorem inW_zero {b : Int} (g : goodB b = true) : inW b 0 = true := by
  have := (half g).1
  exact inW_iff.2 ⟨by omega, by omega⟩
theorem spec_ImpulseOf_ev (a sh m b : Int) (w : Bool) (x n : Int) : Ev (fun k => spec_ImpulseOf.f k a sh m b w x n) (impulseM a sh m b w x n) := by
  simp only [spec_ImpulseOf.f, spec_foAsked_eq, Option.bind_some, spec_l1In_eq]
  by_cases c : foOk a sh m b = true ∧ (decide (-100000 ≤ x) && decide (x ≤ 100000)) = true
  · obtain ⟨c1, c2⟩ := c
    have g := (foOk_iff.1 c1).2.2.2
    have hx : -100000 ≤ x ∧ x ≤ 100000 := by simpa using c2
    refine Ev.tt (by rw [c1, c2, inW_zero g]; rfl) ?_
    by_cases d : (decide (0 ≤ n) && decide (n ≤ 64)) = true
    · have hn : 0 ≤ n ∧ n ≤ 64 := by simpa using d
      rw [d, impulseM, if_pos (by rw [impOk, c1, c2, d]; rfl)]
      refine Ev.step (fun k => by simp only [spec_ImpulseOf.j0]; rfl) ?_
      refine Ev.ff (by decide) ?_
      refine Ev.tt hn.1 (Ev.tt (by omega) (Ev.dbind rfl ?_))
      have h1 := (half g).1
      obtain ⟨cc, h⟩ := spec_foRun_ev a sh m b w c1 (impL x n) (by rw [impL_length]; omega) (impL_in hx) 0 (by omega) (by omega)
      by_cases p : n > 0
      · rw [impL, if_pos p] at h ⊢
        exact Ev.tt p (Ev.tt (by simp; omega) (Ev.bind h (Ev.now _)))
      · rw [impL, if_neg p] at h ⊢
        exact Ev.ff p (Ev.bind h (Ev.now _))
    · rw [Bool.eq_false_iff.mpr d, impulseM, if_neg (by rw [impOk, Bool.eq_false_iff.mpr d]; simp)]
      refine Ev.step (fun k => by simp only [spec_ImpulseOf.j0]; rfl) ?_
      exact Ev.tt (by decide) (Ev.now _)
  · have hf : (foOk a sh m b && inW b 0 && (decide (-100000 ≤ x) && decide (x ≤ 100000))) ≠ true := by
      intro h
      simp only [Bool.and_eq_true] at h c
      exact c ⟨h.1.1, h.2⟩
    refine Ev.ff hf ?_
    rw [impulseM, if_neg (by intro h; simp only [impOk, Bool.and_eq_true] at h c; exact c ⟨h.1.1, h.1.2⟩)]
    refine Ev.step (fun k => by simp only [spec_ImpulseOf.j0]; rfl) ?_
    exact Ev.tt (by decide) (Ev.now _)
theorem impl_ImpulseOf_ev (a sh m b : Int) (w : Bool) (x n : Int) : Ev (fun k => impl_ImpulseOf.f k a sh m b w x n) (impulseM a sh m b w x n) := by
  simp only [impl_ImpulseOf.f, impl_isFirst_eq, impl_isSample.f, Option.bind_some, impl_in_eq]
  by_cases c1 : foOk a sh m b = true
  · have g := (foOk_iff.1 c1).2.2.2
    refine Ev.tt c1 ?_
    by_cases c2 : (decide (-100000 ≤ x) && decide (x ≤ 100000)) = true
    · have hx : -100000 ≤ x ∧ x ≤ 100000 := by simpa using c2
      refine Ev.tt c2 ?_
      by_cases d : (decide (0 ≤ n) && decide (n ≤ 64)) = true
      · have hn : 0 ≤ n ∧ n ≤ 64 := by simpa using d
        rw [d, impulseM, if_pos (by rw [impOk, c1, c2, d]; rfl)]
        refine Ev.step (fun k => by simp only [impl_ImpulseOf.j0]; rfl) ?_
        refine Ev.ff (by decide) ?_
        refine Ev.tt hn.1 (Ev.tt (by omega) (Ev.dbind rfl ?_))
        have h1 := (half g).1
        have h := impl_First_run_ev a sh m b w c1 (impL x n) (by rw [impL_length]; omega) (impL_in hx) 0 (by omega) (by omega)
        by_cases p : n > 0
        · rw [impL, if_pos p] at h ⊢
          exact Ev.tt p (Ev.tt (by simp; omega) (Ev.bind h (Ev.now _)))
        · rw [impL, if_neg p] at h ⊢
          exact Ev.ff p (Ev.bind h (Ev.now _))
      · rw [Bool.eq_false_iff.mpr d, impulseM, if_neg (by rw [impOk, Bool.eq_false_iff.mpr d]; simp)]
        refine Ev.step (fun k => by simp only [impl_ImpulseOf.j0]; rfl) ?_
        exact Ev.tt (by decide) (Ev.now _)
    · refine Ev.ff c2 ?_
      rw [impulseM, if_neg (by rw [impOk, Bool.eq_false_iff.mpr c2]; simp)]
      refine Ev.step (fun k => by simp only [impl_ImpulseOf.j0]; rfl) ?_
      exact Ev.tt (by decide) (Ev.now _)
  · refine Ev.ff c1 ?_
    rw [impulseM, if_neg (by rw [impOk, Bool.eq_false_iff.mpr c1]; simp)]
    refine Ev.step (fun k => by simp only [impl_ImpulseOf.j0]; rfl) ?_
    exact Ev.tt (by decide) (Ev.now _)

theorem laws_uSame_l0 (l : List Int) (hl : l.length ≤ 140737488351232) : ∀ (t p : List Int), l = p ++ t → Ev (fun k => laws_uSame.l0 k l l (l.length : Int) (p.length : Int)) true
  | [], p, h => by
    refine Ev.step (f := fun _ => some true) (fun k => ?_) (Ev.now _)
    subst h
    simp [laws_uSame.l0]
  | x :: t, p, h => by
    have e1 : (p.length : Int) < (l.length : Int) := by rw [h]; exact lt_mid p t x
    have e3 : wrap64 ((p.length : Int) + 1) = ((p ++ [x]).length : Int) := nx_mid p t x (h ▸ hl)
    refine Ev.step (fun k => ?_) (laws_uSame_l0 l hl t (p ++ [x]) (by simp [h]))
    simp only [laws_uSame.l0, if_pos e1, if_pos (Int.natCast_nonneg _), e3]
    rw [if_pos trivial]
theorem laws_uSame_ev (l : List Int) (hl : l.length ≤ 140737488351232) : Ev (fun k => laws_uSame.f k l l) true := by
  simp only [laws_uSame.f]
  exact Ev.tt trivial (laws_uSame_l0 l hl l [] rfl)

theorem laws_uAbs_eq (x : Int) (hx : -4611686018427387904 ≤ x) : laws_uAbs.f x = some (x.natAbs : Int) := by
  simp only [laws_uAbs.f]
  by_cases c : x < 0
  · rw [if_pos c, w64 (n := -x) (by omega) (by omega)]
    congr 1
    omega
  · rw [if_neg c]
    congr 1
    omega

theorem first_ok {l : List Int} (hl : Bytes l) (a sd n : Int) (h0 : 0 ≤ a) (h1 : a ≤ 10000000000) (hn : 0 ≤ n ∧ n ≤ 1000) : ∃ A sh m b w a' sd', spec_l1Cur_first.f l a sd n = some (A, sh, m, b, w, a', sd') ∧ a ≤ a' ∧ a' ≤ a + 40 := by
  unfold spec_l1Cur_first.f
  obtain ⟨v, a1, sd1, e1, ha1, hb1, hv, hv2⟩ := pick_ok hl a sd 5 h0 (by omega) (by omega)
  have hs : wrap64 (shl .i64 2 v + 3) ≤ 1000000 := by
    obtain ⟨n, rfl⟩ : ∃ n : Nat, v = (n : Int) := ⟨v.toNat, by omega⟩
    have h1 : (2 : Nat) ^ n ≤ 2 ^ 4 := Nat.pow_le_pow_right (by decide) (by omega)
    have h3 : (2 : Int) ^ n = (((2 : Nat) ^ n : Nat) : Int) := by simp
    have h4 : (2 : Nat) ^ 4 = 16 := by decide
    have h5 : (0 : Int) < 2 ^ n := Int.pow_pos (by decide)
    rw [shl_mul (s := n) (by omega) 2 (by omega) (by omega), w64 (n := 2 * 2 ^ n + 3) (by omega) (by omega)]
    omega
  obtain ⟨v2, a2, sd2, e2, ha2, hb2, -⟩ := pick_ok hl a1 sd1 (wrap64 (shl .i64 2 v + 3)) (by omega) (by omega) hs
  obtain ⟨v3, a3, sd3, e3, ha3, hb3, -⟩ := pick_ok hl a2 sd2 3 (by omega) (by omega) (by omega)
  have hw : wrap64 (n - 1) = n - 1 := w64 (by omega) (by omega)
  obtain ⟨v4, a4, sd4, e4, ha4, hb4, -⟩ := pick_ok hl a3 sd3 (n - 1) (by omega) (by omega) (by omega)
  obtain ⟨v5, a5, sd5, e5, ha5, hb5, -⟩ := one_ok hl a4 sd4 2 (by omega) (by omega) (by omega)
  obtain ⟨v6, a6, sd6, e6, ha6, hb6, -⟩ := pick_ok hl a5 sd5 18 (by omega) (by omega) (by omega)
  rw [e1]
  simp only [Option.bind_some]
  rw [if_pos hv, e2]
  simp only [Option.bind_some, hw, e3, e4, e5, e6]
  by_cases c0 : v6 = 0
  · obtain ⟨v7, a7, sd7, e7, ha7, hb7, -⟩ := among_ok hl a6 sd6 [1024, (-1024), 1025, (-4611686018427387904), 0] (by omega) (by omega) (by simp) (by simp)
    rw [if_pos c0, e7]
    exact ⟨_, _, _, _, _, _, _, rfl, by show a ≤ a7; omega, by show a7 ≤ a + 40; omega⟩
  · rw [if_neg c0]
    by_cases c1 : v6 = 1
    · obtain ⟨v7, a7, sd7, e7, ha7, hb7, -⟩ := among_ok hl a6 sd6 [10, 11, (-1), 64] (by omega) (by omega) (by simp) (by simp)
      rw [if_pos c1, e7]
      exact ⟨_, _, _, _, _, _, _, rfl, by show a ≤ a7; omega, by show a7 ≤ a + 40; omega⟩
    · rw [if_neg c1]
      by_cases c2 : v6 = 2
      · obtain ⟨v7, a7, sd7, e7, ha7, hb7, -⟩ := among_ok hl a6 sd6 [3, (-1)] (by omega) (by omega) (by simp) (by simp)
        rw [if_pos c2, e7]
        exact ⟨_, _, _, _, _, _, _, rfl, by show a ≤ a7; omega, by show a7 ≤ a + 40; omega⟩
      · rw [if_neg c2]
        by_cases c3 : v6 = 3
        · obtain ⟨b, w, a7, sd7, e7, ha7, hb7⟩ := word_ok hl a6 sd6 (by omega) (by omega)
          rw [if_pos c3, e7]
          exact ⟨_, _, _, _, _, _, _, rfl, by show a ≤ a7; omega, by show a7 ≤ a + 40; omega⟩
        · rw [if_neg c3]
          exact ⟨_, _, _, _, _, _, _, rfl, by omega, by omega⟩

theorem sample_ok {l : List Int} (hl : Bytes l) (a sd n : Int) (h0 : 0 ≤ a) (h1 : a ≤ 10000000000) (hn : 0 ≤ n ∧ n ≤ 1000) : ∃ v a' sd', spec_l1Cur_sample.f l a sd n = some (v, a', sd') ∧ a ≤ a' ∧ a' ≤ a + 10 := by
  unfold spec_l1Cur_sample.f
  obtain ⟨v, a1, sd1, e1, ha1, hb1, -⟩ := one_ok hl a sd 14 h0 (by omega) (by omega)
  have hw : wrap64 (wrap64 (2 * n) + 1) = 2 * n + 1 := by
    rw [w64 (n := 2 * n) (by omega) (by omega), w64 (n := 2 * n + 1) (by omega) (by omega)]
  rw [e1]
  simp only [Option.bind_some, hw]
  by_cases c : v = true
  · obtain ⟨v7, a7, sd7, e7, ha7, hb7, -⟩ := among_ok hl a1 sd1 [100000, (-100000), 100001, (-4611686018427387904)] (by omega) (by omega) (by simp) (by simp)
    rw [if_pos c, e7]
    exact ⟨v7, a7, sd7, rfl, by omega, by omega⟩
  · obtain ⟨v7, a7, sd7, e7, ha7, hb7, -⟩ := pick_ok hl a1 sd1 (2 * n + 1) (by omega) (by omega) (by omega)
    rw [if_neg c, e7]
    exact ⟨wrap64 (v7 - n), a7, sd7, rfl, by omega, by omega⟩

theorem drawExactFirst_ok {l : List Int} (hl : Bytes l) : ∃ A sh m b w y s, Ev (fun k => spec_DrawExactFirst.f k l) (A, sh, m, b, w, y, s) ∧ s.length ≤ 100001 := by
  obtain ⟨A, sh, m, b, w, a1, sd1, e1, ha, hb⟩ := first_ok hl 0 0 9 (by omega) (by omega) (by omega)
  obtain ⟨y, a2, sd2, e2, ha2, hb2, -⟩ := inWord_ok hl a1 sd1 b w (by omega) (by omega)
  obtain ⟨s, a3, sd3, e3, hs, -, -⟩ := signal_ok hl a2 sd2 7 9 (by omega) (by omega) (by omega) (by omega)
  refine ⟨A, sh, m, b, w, y, s, ?_, hs⟩
  simp only [spec_DrawExactFirst.f, e1, Option.bind_some]
  exact Ev.bind e2 (Ev.bind e3 (Ev.now _))

theorem drawFirstStep_ok {l : List Int} (hl : Bytes l) : ∃ A sh m b w y x, Ev (fun k => spec_DrawFirstStep.f k l) (A, sh, m, b, w, y, x) := by
  obtain ⟨A, sh, m, b, w, a1, sd1, e1, ha, hb⟩ := first_ok hl 0 0 9 (by omega) (by omega) (by omega)
  obtain ⟨y, a2, sd2, e2, ha2, hb2, -⟩ := inWord_ok hl a1 sd1 b w (by omega) (by omega)
  obtain ⟨x, a3, sd3, e3, -, -⟩ := sample_ok hl a2 sd2 20 (by omega) (by omega) (by omega)
  refine ⟨A, sh, m, b, w, y, x, ?_⟩
  simp only [spec_DrawFirstStep.f, e1, Option.bind_some]
  refine Ev.bind e2 ?_
  simp only [e3, Option.bind_some]
  exact Ev.now _

theorem drawImpulseOf_ok {l : List Int} (hl : Bytes l) : ∃ A sh m b w x n, spec_DrawImpulseOf.f l = some (A, sh, m, b, w, x, n) := by
  obtain ⟨A, sh, m, b, w, a1, sd1, e1, ha, hb⟩ := first_ok hl 0 0 9 (by omega) (by omega) (by omega)
  obtain ⟨x, a3, sd3, e3, ha3, hb3⟩ := sample_ok hl a1 sd1 60 (by omega) (by omega) (by omega)
  obtain ⟨v7, a7, sd7, e7, ha7, hb7, -⟩ := among_ok hl a3 sd3 [0, 1, 5, 12, 64, 65, (-1)] (by omega) (by omega) (by simp) (by simp)
  refine ⟨A, sh, m, b, w, x, v7, ?_⟩
  simp only [spec_DrawImpulseOf.f, e1, e3, e7, Option.bind_some]

theorem fr_raw_s (a sh m b : Int) (w : Bool) (ok : foOk a sh m b = true) {y x : Int} (h0 : -(hf b) ≤ y ∧ y ≤ hf b - 1) (hx : -100000 ≤ x ∧ x ≤ 100000) : Ev (fun k => spec_foRaw.f k a sh m b w y x) (foRw a sh m y x) := by
  obtain ⟨k1, k2, k3, g⟩ := foOk_iff.1 ok
  have hr := foRw_in ok h0 hx
  have hay := ay_in g k1 h0
  obtain ⟨n, rfl⟩ : ∃ n : Nat, sh = (n : Int) := ⟨sh.toNat, by omega⟩
  rw [Int.toNat_natCast] at hr
  simp only [spec_foRaw.f]
  rw [w64 (n := a * y) (by omega) (by omega)]
  refine Ev.bind (spec_wdShift_ev (a * y) n m (by omega) (by omega)) (Ev.to (Ev.now _) ?_)
  rw [w64 (n := shM (a * y) (2 ^ n) m + x) (by omega) (by omega), foRw, Int.toNat_natCast]
theorem fr_raw_i (a sh m b : Int) (w : Bool) (ok : foOk a sh m b = true) {y x : Int} (h0 : -(hf b) ≤ y ∧ y ≤ hf b - 1) (hx : -100000 ≤ x ∧ x ≤ 100000) : Ev (fun k => impl_First_raw.f k a sh m b w y x) (foRw a sh m y x) := by
  obtain ⟨k1, k2, k3, g⟩ := foOk_iff.1 ok
  have hr := foRw_in ok h0 hx
  have hay := ay_in g k1 h0
  obtain ⟨n, rfl⟩ : ∃ n : Nat, sh = (n : Int) := ⟨sh.toNat, by omega⟩
  rw [Int.toNat_natCast] at hr
  simp only [impl_First_raw.f]
  rw [w64 (n := a * y) (by omega) (by omega)]
  refine Ev.bind (impl_shifted_ev (a * y) n m (by omega) (by omega)) (Ev.to (Ev.now _) ?_)
  rw [w64 (n := shM (a * y) (2 ^ n) m + x) (by omega) (by omega), foRw, Int.toNat_natCast]
theorem fr_step_s (a sh m b : Int) (w : Bool) (ok : foOk a sh m b = true) {y x : Int} (h0 : -(hf b) ≤ y ∧ y ≤ hf b - 1) (hx : -100000 ≤ x ∧ x ≤ 100000) : Ev (fun k => spec_foStep.f k a sh m b w y x) (fitH (hf b) w (foRw a sh m y x)) := by
  have g := (foOk_iff.1 ok).2.2.2
  simp only [spec_foStep.f]
  exact Ev.bind (fr_raw_s a sh m b w ok h0 hx) (Ev.dbind (spec_wdFit_eq w _ g) (Ev.now _))
theorem fr_step_i (a sh m b : Int) (w : Bool) (ok : foOk a sh m b = true) {y x : Int} (h0 : -(hf b) ≤ y ∧ y ≤ hf b - 1) (hx : -100000 ≤ x ∧ x ≤ 100000) : Ev (fun k => impl_First_step.f k a sh m b w y x) (fitH (hf b) w (foRw a sh m y x)) := by
  have g := (foOk_iff.1 ok).2.2.2
  have hr := foRw_in ok h0 hx
  simp only [impl_First_step.f]
  exact Ev.bind (fr_raw_i a sh m b w ok h0 hx) (Ev.dbind (impl_Word_fit_eq w _ g (by omega)) (Ev.now _))
def frAsk (a sh m b y x : Int) : Bool := foOk a sh m b && inW b y && (decide (-100000 ≤ x) && decide (x ≤ 100000))
theorem frAsk_iff {a sh m b y x : Int} : frAsk a sh m b y x = true ↔ foOk a sh m b = true ∧ (-(hf b) ≤ y ∧ y ≤ hf b - 1) ∧ (-100000 ≤ x ∧ x ≤ 100000) := by
  simp only [frAsk, Bool.and_eq_true, decide_eq_true_eq, inW_iff]
  exact ⟨fun h => ⟨h.1.1, h.1.2, h.2⟩, fun h => ⟨⟨h.1, h.2.1⟩, h.2.2⟩⟩
def firstStepM (a sh m b : Int) (w : Bool) (y x : Int) : Int × Bool := if frAsk a sh m b y x = true then (fitH (hf b) w (foRw a sh m y x), true) else (0, false)

theorem spec_FirstStep_ev (a sh m b : Int) (w : Bool) (y x : Int) : Ev (fun k => spec_FirstStep.f k a sh m b w y x) (firstStepM a sh m b w y x) := by
  simp only [spec_FirstStep.f, firstStepM]
  refine Ev.dbind (spec_foAsked_eq a sh m b w y x) ?_
  by_cases c : frAsk a sh m b y x = true
  · obtain ⟨c1, c2, c3⟩ := frAsk_iff.1 c
    rw [if_pos c]
    exact Ev.tt c (Ev.bind (fr_step_s a sh m b w c1 c2 c3) (Ev.now _))
  · rw [if_neg c]
    exact Ev.ff c (Ev.now _)

theorem impl_FirstStep_ev (a sh m b : Int) (w : Bool) (y x : Int) : Ev (fun k => impl_FirstStep.f k a sh m b w y x) (firstStepM a sh m b w y x) := by
  simp only [impl_FirstStep.f, firstStepM, impl_First_isAt.f, impl_isFirst_eq, Option.bind_some]
  by_cases c : foOk a sh m b = true
  · have g := (foOk_iff.1 c).2.2.2
    rw [if_pos c, impl_Word_has_eq w y g]
    simp only [Option.bind_some]
    by_cases e : inW b y = true
    · refine Ev.tt e ?_
      simp only [impl_isSample.f, impl_in_eq, Option.bind_some]
      by_cases d : -100000 ≤ x ∧ x ≤ 100000
      · rw [if_pos (frAsk_iff.2 ⟨c, inW_iff.1 e, d⟩)]
        exact Ev.tt (by simpa using d) (Ev.bind (fr_step_i a sh m b w c (inW_iff.1 e) d) (Ev.now _))
      · rw [if_neg (fun h => d (frAsk_iff.1 h).2.2)]
        exact Ev.ff (by simpa using d) (Ev.now _)
    · rw [if_neg (fun h => e (inW_iff.2 (frAsk_iff.1 h).2.1))]
      exact Ev.ff e (Ev.now _)
  · rw [if_neg c, if_neg (fun h => c (frAsk_iff.1 h).1)]
    simp only [Option.bind_some]
    exact Ev.ff (by decide) (Ev.now _)

/-- how many numbers fitting changes -/
def cntM (a sh m b : Int) (w : Bool) : List Int → Int → Nat
  | [], _ => 0
  | x :: t, y => (if fitH (hf b) w (foRw a sh m y x) = foRw a sh m y x then 0 else 1) + cntM a sh m b w t (fitH (hf b) w (foRw a sh m y x))
theorem cntM_le (a sh m b : Int) (w : Bool) : ∀ (l : List Int) (y : Int), cntM a sh m b w l y ≤ l.length
  | [], _ => Nat.le_refl _
  | x :: t, y => by
    have := cntM_le a sh m b w t (fitH (hf b) w (foRw a sh m y x))
    simp only [cntM, List.length_cons]
    split <;> omega
theorem fr_foRun_l0 (a sh m b : Int) (w : Bool) (ok : foOk a sh m b = true) (l : List Int) (hl : l.length ≤ 1000000) (hb : ∀ x ∈ l, -100000 ≤ x ∧ x ≤ 100000) : ∀ (t p q : List Int) (y : Int) (c : Nat), l = p ++ t → q.length = p.length → c ≤ p.length → -(hf b) ≤ y → y ≤ hf b - 1 →
    Ev (fun k => spec_foRun.l0 k y q (c : Int) l (l.length : Int) (p.length : Int) a sh m b w) (q ++ foM a sh m b w t y, ((c + cntM a sh m b w t y : Nat) : Int))
  | [], p, q, y, c, h, hq, hc, h0, h1 => by
    refine Ev.to (Ev.step (f := fun _ => some (q, (c : Int))) (fun k => ?_) (Ev.now _)) (by simp [foM, cntM])
    subst h
    simp [spec_foRun.l0]
  | x :: t, p, q, y, c, h, hq, hc, h0, h1 => by
    have e1 : (p.length : Int) < (l.length : Int) := by rw [h]; exact lt_mid p t x
    have e2 : rd l (p.length : Int) = x := by rw [h]; exact rd_mid p t x
    have e3 : wrap64 ((p.length : Int) + 1) = ((p ++ [x]).length : Int) := nx_mid p t x (by rw [← h]; omega)
    have hx := hb x (by rw [h]; simp)
    have hpl : p.length ≤ 1000000 := by rw [h] at hl; simp at hl; omega
    have hc1 : c ≤ (p ++ [x]).length := by simp; omega
    have hc2 : c + 1 ≤ (p ++ [x]).length := by simp; omega
    have e4 : wrap64 ((c : Int) + 1) = ((c + 1 : Nat) : Int) := w64_nat c 1 (by omega)
    have g := (foOk_iff.1 ok).2.2.2
    have hf1 := fitH_bd (hf b) w (foRw a sh m y x) (by have := (half g).1; omega)
    have hraw := fr_raw_s a sh m b w ok ⟨h0, h1⟩ hx
    have hql : q.length < 17592186044416 := by omega
    by_cases d : fitH (hf b) w (foRw a sh m y x) = foRw a sh m y x
    · have ih := fr_foRun_l0 a sh m b w ok l hl hb t (p ++ [x]) (q ++ [fitH (hf b) w (foRw a sh m y x)]) (fitH (hf b) w (foRw a sh m y x)) c (by simp [h]) (by simp [hq]) hc1 hf1.1 hf1.2
      refine Ev.to (Ev.step (fun k => by simp only [spec_foRun.l0]; rfl) ?_) (show (q ++ [fitH (hf b) w (foRw a sh m y x)] ++ foM a sh m b w t (fitH (hf b) w (foRw a sh m y x)), ((c + cntM a sh m b w t (fitH (hf b) w (foRw a sh m y x)) : Nat) : Int)) = _ by simp only [foM, cntM, if_pos d, List.append_assoc, List.singleton_append, Nat.zero_add])
      rw [e2, e3]
      exact Ev.tt e1 (Ev.tt (Int.natCast_nonneg _) (Ev.tt e1 (Ev.bind hraw (Ev.dbind (spec_wdFit_eq w _ g) (Ev.tt d (Ev.tt hql ih))))))
    · have ih := fr_foRun_l0 a sh m b w ok l hl hb t (p ++ [x]) (q ++ [fitH (hf b) w (foRw a sh m y x)]) (fitH (hf b) w (foRw a sh m y x)) (c + 1) (by simp [h]) (by simp [hq]) hc2 hf1.1 hf1.2
      refine Ev.to (Ev.step (fun k => by simp only [spec_foRun.l0]; rfl) ?_) (show (q ++ [fitH (hf b) w (foRw a sh m y x)] ++ foM a sh m b w t (fitH (hf b) w (foRw a sh m y x)), ((c + 1 + cntM a sh m b w t (fitH (hf b) w (foRw a sh m y x)) : Nat) : Int)) = _ by simp only [foM, cntM, if_neg d, List.append_assoc, List.singleton_append, Nat.add_assoc])
      rw [e2, e3, e4]
      exact Ev.tt e1 (Ev.tt (Int.natCast_nonneg _) (Ev.tt e1 (Ev.bind hraw (Ev.dbind (spec_wdFit_eq w _ g) (Ev.ff d (Ev.tt hql ih))))))
def countM (a sh m b : Int) (w : Bool) (y : Int) (l : List Int) : Int × Bool := if foOk a sh m b = true ∧ inW b y = true ∧ sig l = true then ((cntM a sh m b w l y : Int), true) else (0, false)
theorem spec_CountFits_ev (a sh m b : Int) (w : Bool) (y : Int) (l : List Int) (hl : l.length ≤ 10000000) : Ev (fun k => spec_CountFits.f k a sh m b w y l) (countM a sh m b w y l) := by
  simp only [spec_CountFits.f, spec_foAsked_eq, Option.bind_some, countM]
  by_cases c : foOk a sh m b = true ∧ inW b y = true
  · refine Ev.tt (by rw [c.1, c.2]; rfl) (Ev.bind (spec_wdSignal_ev l (by omega)) ?_)
    by_cases d : sig l = true
    · have y' := inW_iff.1 c.2
      have hs := sig_len d
      have h := fr_foRun_l0 a sh m b w c.1 l (by omega) (sig_mem d) l [] [] y 0 rfl rfl (Nat.le_refl _) y'.1 y'.2
      have h2 : Ev (fun k => spec_foRun.f k a sh m b w y l) (foM a sh m b w l y, ((cntM a sh m b w l y : Nat) : Int)) := by simpa [spec_foRun.f] using h
      rw [if_pos ⟨c.1, c.2, d⟩]
      exact Ev.tt d (Ev.bind h2 (Ev.now _))
    · rw [if_neg (fun h => d h.2.2)]
      exact Ev.ff d (Ev.now _)
  · rw [if_neg (fun h => c ⟨h.1, h.2.1⟩)]
    refine Ev.ff (fun h => c ?_) (Ev.now _)
    simp only [Bool.and_eq_true] at h
    exact h.1
theorem fit_iff {b : Int} (g : goodB b = true) (w : Bool) (x : Int) : fitH (hf b) w x = x ↔ inW b x = true := by
  have hf1 := fitH_bd (hf b) w x (by have := (half g).1; omega)
  constructor
  · intro h
    rw [h] at hf1
    exact inW_iff.2 hf1
  · intro h
    have h' := inW_iff.1 h
    exact fitH_id _ w x h'.1 h'.2
theorem impl_CountFits_l0 (a sh m b : Int) (w : Bool) (ok : foOk a sh m b = true) (l : List Int) (hl : l.length ≤ 1000000) (hb : ∀ x ∈ l, -100000 ≤ x ∧ x ≤ 100000) : ∀ (t p : List Int) (y : Int) (c : Nat), l = p ++ t → c ≤ p.length → -(hf b) ≤ y → y ≤ hf b - 1 →
    Ev (fun k => impl_CountFits.l0 k y (c : Int) l (l.length : Int) (p.length : Int) a sh m b w) (((c + cntM a sh m b w t y : Nat) : Int), true)
  | [], p, y, c, h, hc, h0, h1 => by
    refine Ev.to (Ev.step (f := fun _ => some ((c : Int), true)) (fun k => ?_) (Ev.now _)) (by simp [cntM])
    subst h
    simp [impl_CountFits.l0]
  | x :: t, p, y, c, h, hc, h0, h1 => by
    have e1 : (p.length : Int) < (l.length : Int) := by rw [h]; exact lt_mid p t x
    have e2 : rd l (p.length : Int) = x := by rw [h]; exact rd_mid p t x
    have e3 : wrap64 ((p.length : Int) + 1) = ((p ++ [x]).length : Int) := nx_mid p t x (by rw [← h]; omega)
    have hx := hb x (by rw [h]; simp)
    have hpl : p.length ≤ 1000000 := by rw [h] at hl; simp at hl; omega
    have hc1 : c ≤ (p ++ [x]).length := by simp; omega
    have hc2 : c + 1 ≤ (p ++ [x]).length := by simp; omega
    have e4 : wrap64 ((c : Int) + 1) = ((c + 1 : Nat) : Int) := w64_nat c 1 (by omega)
    have g := (foOk_iff.1 ok).2.2.2
    have hf1 := fitH_bd (hf b) w (foRw a sh m y x) (by have := (half g).1; omega)
    have hraw := fr_raw_i a sh m b w ok ⟨h0, h1⟩ hx
    have hstep := fr_step_i a sh m b w ok ⟨h0, h1⟩ hx
    by_cases d : fitH (hf b) w (foRw a sh m y x) = foRw a sh m y x
    · have ih := impl_CountFits_l0 a sh m b w ok l hl hb t (p ++ [x]) (fitH (hf b) w (foRw a sh m y x)) c (by simp [h]) hc1 hf1.1 hf1.2
      refine Ev.to (Ev.step (fun k => by simp only [impl_CountFits.l0]; rfl) ?_) (show (((c + cntM a sh m b w t (fitH (hf b) w (foRw a sh m y x)) : Nat) : Int), true) = _ by simp only [cntM, if_pos d, Nat.zero_add])
      rw [e2, e3]
      exact Ev.tt e1 (Ev.tt (Int.natCast_nonneg _) (Ev.tt e1 (Ev.bind hraw (Ev.dbind (impl_Word_has_eq w _ g) (Ev.tt ((fit_iff g w _).1 d) (Ev.bind hstep ih))))))
    · have ih := impl_CountFits_l0 a sh m b w ok l hl hb t (p ++ [x]) (fitH (hf b) w (foRw a sh m y x)) (c + 1) (by simp [h]) hc2 hf1.1 hf1.2
      refine Ev.to (Ev.step (fun k => by simp only [impl_CountFits.l0]; rfl) ?_) (show (((c + 1 + cntM a sh m b w t (fitH (hf b) w (foRw a sh m y x)) : Nat) : Int), true) = _ by simp only [cntM, if_neg d, Nat.add_assoc])
      rw [e2, e3, e4]
      exact Ev.tt e1 (Ev.tt (Int.natCast_nonneg _) (Ev.tt e1 (Ev.bind hraw (Ev.dbind (impl_Word_has_eq w _ g) (Ev.ff (fun h => d ((fit_iff g w _).2 h)) (Ev.bind hstep ih))))))
theorem impl_CountFits_ev (a sh m b : Int) (w : Bool) (y : Int) (l : List Int) (hl : l.length ≤ 10000000) : Ev (fun k => impl_CountFits.f k a sh m b w y l) (countM a sh m b w y l) := by
  have fail : ∀ (y : Int) (l : List Int), Ev (fun k => impl_CountFits.j0 k y l true a sh m b w) (0, false) := by
    intro y l
    refine Ev.step (f := fun _ => some (0, false)) (fun k => ?_) (Ev.now _)
    simp [impl_CountFits.j0]
  simp only [impl_CountFits.f, impl_First_isAt.f, impl_isFirst_eq, Option.bind_some, countM]
  by_cases c : foOk a sh m b = true
  · have g := (foOk_iff.1 c).2.2.2
    rw [if_pos c, impl_Word_has_eq w y g]
    simp only [Option.bind_some]
    by_cases e : inW b y = true
    · refine Ev.tt e (Ev.bind (impl_isSignal_ev l (by omega)) ?_)
      by_cases d : sig l = true
      · have y' := inW_iff.1 e
        have hs := sig_len d
        rw [if_pos ⟨c, e, d⟩, d]
        refine Ev.step (fun k => by simp only [impl_CountFits.j0]; rfl) ?_
        have h := impl_CountFits_l0 a sh m b w c l (by omega) (sig_mem d) l [] y 0 rfl (Nat.le_refl _) y'.1 y'.2
        exact Ev.ff (by simp) (by simpa using h)
      · rw [if_neg (fun h => d h.2.2), Bool.eq_false_iff.mpr d]
        exact fail y l
    · rw [if_neg (fun h => e h.2.1)]
      exact Ev.ff e (fail y l)
  · rw [if_neg c, if_neg (fun h => c h.1)]
    simp only [Option.bind_some]
    exact Ev.ff (by decide) (fail y l)

def shrinkM (a sh m b : Int) : Bool × Bool := if foOk a sh m b = true then (decide ((a.natAbs : Int) < 2 ^ sh.toNat), true) else (false, false)
theorem fr_shr (a sh m b : Int) (w : Bool) (ok : foOk a sh m b = true) : impl_First_isShrinking.f a sh m b w = some (decide ((a.natAbs : Int) < 2 ^ sh.toNat)) := by
  obtain ⟨k1, k2, k3, g⟩ := foOk_iff.1 ok
  obtain ⟨n, rfl⟩ : ∃ n : Nat, sh = (n : Int) := ⟨sh.toNat, by omega⟩
  simp only [impl_First_isShrinking.f, impl_size_eq a (by omega), Option.bind_some]
  rw [if_pos (by omega), shl_one (s := n) (by omega), Int.toNat_natCast]
theorem impl_IsShrinking_eq (a sh m b : Int) (w : Bool) : impl_IsShrinking.f a sh m b w = some (shrinkM a sh m b) := by
  simp only [impl_IsShrinking.f, impl_isFirst_eq, Option.bind_some, shrinkM]
  by_cases c : foOk a sh m b = true
  · rw [if_pos c, if_pos c, fr_shr a sh m b w c]
    rfl
  · rw [if_neg c, if_neg c]

theorem spec_IsShrinking_eq (a sh m b : Int) (w : Bool) : spec_IsShrinking.f a sh m b w = some (shrinkM a sh m b) := by
  simp only [spec_IsShrinking.f, spec_foGood_eq, Option.bind_some, shrinkM]
  by_cases c : foOk a sh m b = true
  · obtain ⟨k1, k2, k3, g⟩ := foOk_iff.1 c
    obtain ⟨n, rfl⟩ : ∃ n : Nat, sh = (n : Int) := ⟨sh.toNat, by omega⟩
    rw [if_pos c, if_pos c, spec_l1Abs_eq a (by omega)]
    simp only [Option.bind_some]
    rw [if_pos (by omega), shl_one (s := n) (by omega), Int.toNat_natCast]
  · rw [if_neg c, if_neg c]

theorem fr_mul {a y : Int} {A Y : Nat} (ha : a.natAbs ≤ A) (hy : y.natAbs ≤ Y) : (a * y).natAbs ≤ A * Y := by
  rw [Int.natAbs_mul]
  exact Nat.mul_le_mul ha hy
def exG (a S : Int) : List Int → Int → Int → Option (List Int)
  | [], _, _ => some []
  | x :: t, y, c => if numOk (c * S) = true then (if numOk (a * y + x * (c * S)) = true then (exG a S t (a * y + x * (c * S)) (c * S)).map (fun r => (a * y + x * (c * S)) :: r) else none) else none
def exOut (q : List Int) : Option (List Int) → List Int × Bool
  | some r => (q ++ r, true)
  | none => ([], false)
theorem exOut_cons (q : List Int) (v : Int) (g : Option (List Int)) : exOut q (g.map (fun r => v :: r)) = exOut (q ++ [v]) g := by
  cases g <;> simp [exOut]
theorem fr_ex_num {a x y c S : Int} (ha : -1024 ≤ a ∧ a ≤ 1024) (hx : -100000 ≤ x ∧ x ≤ 100000) (hy : -1000000000000 ≤ y ∧ y ≤ 1000000000000) (hc : 1 ≤ c ∧ c ≤ 1000000000000) (hS : 1 ≤ S ∧ S ≤ 1024) : (1 ≤ c * S ∧ c * S ≤ 1024000000000000) ∧ wrap64 (a * y) = a * y ∧ (numOk (c * S) = true → wrap64 (x * (c * S)) = x * (c * S) ∧ wrap64 (a * y + x * (c * S)) = a * y + x * (c * S)) := by
  have h1 := fr_mul (A := 1024) (Y := 1000000000000) (a := a) (y := y) (by omega) (by omega)
  have h2 := fr_mul (A := 1000000000000) (Y := 1024) (a := c) (y := S) (by omega) (by omega)
  have h3 : 1 * 1 ≤ c * S := Int.mul_le_mul hc.1 hS.1 (by omega) (by omega)
  have e1 : wrap64 (a * y) = a * y := w64 (by omega) (by omega)
  refine ⟨⟨by omega, by omega⟩, e1, fun hn => ?_⟩
  have hn' := numOk_iff.1 hn
  have h4 := fr_mul (A := 100000) (Y := 1000000000000) (a := x) (y := c * S) (by omega) (by omega)
  have e2 : wrap64 (x * (c * S)) = x * (c * S) := w64 (by omega) (by omega)
  have e3 : wrap64 (a * y + x * (c * S)) = a * y + x * (c * S) := w64 (by omega) (by omega)
  exact ⟨e2, e3⟩
theorem fr_pow {n : Nat} (h : n ≤ 10) : 1 ≤ (2 : Int) ^ n ∧ (2 : Int) ^ n ≤ 1024 := by
  have h1 : (2 : Nat) ^ n ≤ 2 ^ 10 := Nat.pow_le_pow_right (by decide) h
  have h3 : (2 : Int) ^ n = (((2 : Nat) ^ n : Nat) : Int) := by simp
  have h4 : (2 : Nat) ^ 10 = 1024 := by decide
  have h5 : (0 : Int) < 2 ^ n := Int.pow_pos (by decide)
  omega
theorem spec_foExact_l0 (a : Int) (n : Nat) (m b : Int) (w : Bool) (ha : -1024 ≤ a ∧ a ≤ 1024) (hn : n ≤ 10) (l : List Int) (hl : l.length ≤ 1000000) (hb : ∀ x ∈ l, -100000 ≤ x ∧ x ≤ 100000) : ∀ (t p q : List Int) (y c : Int), l = p ++ t → q.length = p.length → (-1000000000000 ≤ y ∧ y ≤ 1000000000000) → (1 ≤ c ∧ c ≤ 1000000000000) →
    Ev (fun k => spec_foExact.l0 k y q c l (l.length : Int) (p.length : Int) a (n : Int) m b w) (exOut q (exG a (2 ^ n) t y c))
  | [], p, q, y, c, h, hq, hy, hc => by
    refine Ev.to (Ev.step (f := fun _ => some (q, true)) (fun k => ?_) (Ev.now _)) (by simp [exG, exOut])
    subst h
    simp [spec_foExact.l0]
  | x :: t, p, q, y, c, h, hq, hy, hc => by
    have e1 : (p.length : Int) < (l.length : Int) := by rw [h]; exact lt_mid p t x
    have e2 : rd l (p.length : Int) = x := by rw [h]; exact rd_mid p t x
    have e3 : wrap64 ((p.length : Int) + 1) = ((p ++ [x]).length : Int) := nx_mid p t x (by rw [← h]; omega)
    have hx := hb x (by rw [h]; simp)
    have hql : q.length < 17592186044416 := by rw [h] at hl; simp at hl; omega
    have n0 : (0 : Int) ≤ (n : Int) := Int.natCast_nonneg _
    obtain ⟨⟨k1, k2⟩, k3, k4⟩ := fr_ex_num ha hx hy hc (fr_pow hn)
    have e5 : shl .i64 c (n : Int) = c * 2 ^ n := shl_mul (by omega) c (by omega) (by omega)
    refine Ev.step (fun k => by simp only [spec_foExact.l0]; rfl) ?_
    rw [e2, e3, e5, k3]
    refine Ev.tt e1 (Ev.tt (Int.natCast_nonneg _) (Ev.tt e1 (Ev.tt n0 ?_)))
    by_cases d : numOk (c * 2 ^ n) = true
    · obtain ⟨k5, k6⟩ := k4 d
      have d' := numOk_iff.1 d
      rw [k5, k6, exG, if_pos d]
      refine Ev.ff (by omega) (Ev.dbind (spec_wdNumber_eq _) ?_)
      by_cases e : numOk (a * y + x * (c * 2 ^ n)) = true
      · have e' := numOk_iff.1 e
        rw [if_pos e, exOut_cons]
        exact Ev.tt e (Ev.tt hql (spec_foExact_l0 a n m b w ha hn l hl hb t (p ++ [x]) (q ++ [a * y + x * (c * 2 ^ n)]) _ _ (by simp [h]) (by simp [hq]) e' ⟨k1, d'.2⟩))
      · rw [if_neg e]
        exact Ev.ff e (Ev.now _)
    · rw [exG, if_neg d]
      have d' : ¬ (-1000000000000 ≤ c * 2 ^ n ∧ c * 2 ^ n ≤ 1000000000000) := fun h => d (numOk_iff.2 h)
      exact Ev.tt (by omega) (Ev.now _)
theorem impl_ExactFirst_ex_l0 (a : Int) (n : Nat) (ha : -1024 ≤ a ∧ a ≤ 1024) (hn : n ≤ 10) (l : List Int) (hl : l.length ≤ 1000000) (hb : ∀ x ∈ l, -100000 ≤ x ∧ x ≤ 100000) : ∀ (t p q : List Int) (y c : Int), l = p ++ t → q.length = p.length → (-1000000000000 ≤ y ∧ y ≤ 1000000000000) → (1 ≤ c ∧ c ≤ 1000000000000) →
    Ev (fun k => impl_ExactFirst_ex.l0 k y q c (p.length : Int) l (n : Int) a) (exOut q (exG a (2 ^ n) t y c))
  | [], p, q, y, c, h, hq, hy, hc => by
    refine Ev.to (Ev.step (f := fun _ => some (q, true)) (fun k => ?_) (Ev.now _)) (by simp [exG, exOut])
    subst h
    simp [impl_ExactFirst_ex.l0]
  | x :: t, p, q, y, c, h, hq, hy, hc => by
    have e1 : (p.length : Int) < (l.length : Int) := by rw [h]; exact lt_mid p t x
    have e2 : rd l (p.length : Int) = x := by rw [h]; exact rd_mid p t x
    have e3 : wrap64 ((p.length : Int) + 1) = ((p ++ [x]).length : Int) := nx_mid p t x (by rw [← h]; omega)
    have hx := hb x (by rw [h]; simp)
    have hql : q.length < 17592186044416 := by rw [h] at hl; simp at hl; omega
    have n0 : (0 : Int) ≤ (n : Int) := Int.natCast_nonneg _
    obtain ⟨⟨k1, k2⟩, k3, k4⟩ := fr_ex_num ha hx hy hc (fr_pow hn)
    have e5 : shl .i64 c (n : Int) = c * 2 ^ n := shl_mul (by omega) c (by omega) (by omega)
    refine Ev.step (fun k => by simp only [impl_ExactFirst_ex.l0]; rfl) ?_
    rw [e2, e3, e5, k3]
    refine Ev.tt e1 (Ev.tt (Int.natCast_nonneg _) (Ev.tt n0 (Ev.dbind (impl_isNumber_eq _) ?_)))
    by_cases d : numOk (c * 2 ^ n) = true
    · obtain ⟨k5, k6⟩ := k4 d
      have d' := numOk_iff.1 d
      rw [k5, k6, exG, if_pos d]
      refine Ev.tt d (Ev.dbind (impl_isNumber_eq _) ?_)
      by_cases e : numOk (a * y + x * (c * 2 ^ n)) = true
      · have e' := numOk_iff.1 e
        rw [if_pos e, exOut_cons]
        exact Ev.tt e (Ev.tt hql (impl_ExactFirst_ex_l0 a n ha hn l hl hb t (p ++ [x]) (q ++ [a * y + x * (c * 2 ^ n)]) _ _ (by simp [h]) (by simp [hq]) e' ⟨k1, d'.2⟩))
      · rw [if_neg e]
        exact Ev.ff e (Ev.now _)
    · rw [exG, if_neg d]
      exact Ev.ff d (Ev.now _)
def exactM (a sh m b y : Int) (l : List Int) : List Int × Bool := if foOk a sh m b = true ∧ inW b y = true ∧ sig l = true then exOut [] (exG a (2 ^ sh.toNat) l y 1) else ([], false)
theorem spec_ExactFirst_ev (a sh m b : Int) (w : Bool) (y : Int) (l : List Int) (hl : l.length ≤ 10000000) : Ev (fun k => spec_ExactFirst.f k a sh m b w y l) (exactM a sh m b y l) := by
  simp only [spec_ExactFirst.f, spec_foAsked_eq, Option.bind_some, exactM]
  by_cases c : foOk a sh m b = true ∧ inW b y = true
  · refine Ev.tt (by rw [c.1, c.2]; rfl) (Ev.bind (spec_wdSignal_ev l (by omega)) ?_)
    by_cases d : sig l = true
    · have y' := inW_iff.1 c.2
      have hs := sig_len d
      obtain ⟨k1, k2, k3, g⟩ := foOk_iff.1 c.1
      have hh := (half g).1
      obtain ⟨n, rfl⟩ : ∃ n : Nat, sh = (n : Int) := ⟨sh.toNat, by omega⟩
      have h := spec_foExact_l0 a n m b w k1 (by omega) l (by omega) (sig_mem d) l [] [] y 1 rfl rfl (by omega) (by omega)
      have h2 : Ev (fun k => spec_foExact.f k a (n : Int) m b w y l) (exOut [] (exG a (2 ^ n) l y 1)) := by simpa [spec_foExact.f] using h
      rw [if_pos ⟨c.1, c.2, d⟩, Int.toNat_natCast]
      exact Ev.tt d (Ev.bind h2 (Ev.now _))
    · rw [if_neg (fun h => d h.2.2)]
      exact Ev.ff d (Ev.now _)
  · rw [if_neg (fun h => c ⟨h.1, h.2.1⟩)]
    refine Ev.ff (fun h => c ?_) (Ev.now _)
    simp only [Bool.and_eq_true] at h
    exact h.1
theorem impl_ExactFirst_ev (a sh m b : Int) (w : Bool) (y : Int) (l : List Int) (hl : l.length ≤ 10000000) : Ev (fun k => impl_ExactFirst.f k a sh m b w y l) (exactM a sh m b y l) := by
  simp only [impl_ExactFirst.f, impl_First_isAt.f, impl_isFirst_eq, Option.bind_some, exactM]
  by_cases c : foOk a sh m b = true
  · obtain ⟨k1, k2, k3, g⟩ := foOk_iff.1 c
    rw [if_pos c, impl_Word_has_eq w y g]
    simp only [Option.bind_some]
    by_cases e : inW b y = true
    · refine Ev.tt e (Ev.bind (impl_isSignal_ev l (by omega)) ?_)
      by_cases d : sig l = true
      · have y' := inW_iff.1 e
        have hs := sig_len d
        have hh := (half g).1
        obtain ⟨n, rfl⟩ : ∃ n : Nat, sh = (n : Int) := ⟨sh.toNat, by omega⟩
        have h := impl_ExactFirst_ex_l0 a n k1 (by omega) l (by omega) (sig_mem d) l [] [] y 1 rfl rfl (by omega) (by omega)
        rw [if_pos ⟨c, e, d⟩, Int.toNat_natCast]
        exact Ev.tt d (by simpa using h)
      · rw [if_neg (fun h => d h.2.2)]
        exact Ev.ff d (Ev.now _)
    · rw [if_neg (fun h => e h.2.1)]
      exact Ev.ff e (Ev.now _)
  · rw [if_neg c, if_neg (fun h => c h.1)]
    simp only [Option.bind_some]
    exact Ev.ff (by decide) (Ev.now _)

theorem fr_gcd_stp (a b : Nat) : Nat.gcd a (b + 1) = Nat.gcd (b + 1) (a % (b + 1)) := by
  rw [Nat.gcd_comm a, Nat.gcd_rec (b + 1) a, Nat.gcd_comm]
theorem fr_gcd_l0 : ∀ (n b a : Nat), b ≤ n → Ev (fun k => impl_gcd.l0 k (a : Int) (b : Int)) ((Nat.gcd a b : Nat) : Int)
  | _, 0, a, _ => by
    refine Ev.to (Ev.step (f := fun _ => some (a : Int)) (fun k => ?_) (Ev.now _)) (by simp)
    simp [impl_gcd.l0]
  | 0, b + 1, a, h => by omega
  | n + 1, b + 1, a, h => by
    have hm : a % (b + 1) < b + 1 := Nat.mod_lt _ (by omega)
    have ih := fr_gcd_l0 n (a % (b + 1)) (b + 1) (by omega)
    refine Ev.step (fun k => by simp only [impl_gcd.l0]; rfl) ?_
    rw [tm, fr_gcd_stp]
    exact Ev.ff (by omega) ih
theorem fr_ratio_l0 (p q : Int) : ∀ (n b a : Nat), b ≤ n → 1 ≤ Nat.gcd a b → Ev (fun k => spec_foRatio.l0 k p q (a : Int) (b : Int)) (wrap64 (Int.tdiv p ((Nat.gcd a b : Nat) : Int)), wrap64 (Int.tdiv q ((Nat.gcd a b : Nat) : Int)))
  | _, 0, a, _, hg => by
    rw [Nat.gcd_zero_right] at hg ⊢
    refine Ev.step (fun k => by simp only [spec_foRatio.l0]; rfl) ?_
    exact Ev.ff (by omega) (Ev.ff (by omega) (Ev.now _))
  | 0, b + 1, a, h, hg => by omega
  | n + 1, b + 1, a, h, hg => by
    have hm : a % (b + 1) < b + 1 := Nat.mod_lt _ (by omega)
    rw [fr_gcd_stp] at hg ⊢
    have ih := fr_ratio_l0 p q n (a % (b + 1)) (b + 1) (by omega) hg
    refine Ev.step (fun k => by simp only [spec_foRatio.l0]; rfl) ?_
    rw [tm]
    exact Ev.tt (by omega) (Ev.ff (by omega) ih)
theorem fr_div {p g : Nat} (hp : p ≤ 1000000) (hg : 1 ≤ g) : wrap64 (Int.tdiv (p : Int) (g : Int)) = ((p / g : Nat) : Int) := by
  rw [td]
  exact w64n (Nat.le_trans (Nat.div_le_self p g) (by omega))
/-- a ratio in lowest terms -/
theorem fr_lowest (p q : Nat) (hp : p ≤ 1000000) (hq : q ≤ 1000000) (hq1 : 1 ≤ q) : Ev (fun k => impl_lowest.f k (p : Int) (q : Int)) (((p / Nat.gcd p q : Nat) : Int), ((q / Nat.gcd p q : Nat) : Int)) := by
  have hg : 1 ≤ Nat.gcd p q := Nat.gcd_pos_of_pos_right _ hq1
  have h1 : Ev (fun k => impl_gcd.f k (p : Int) (q : Int)) ((Nat.gcd p q : Nat) : Int) := by
    simp only [impl_gcd.f]
    refine Ev.dbind (impl_size_eq (p : Int) (by omega)) (Ev.dbind (impl_size_eq (q : Int) (by omega)) ?_)
    rw [Int.natAbs_natCast, Int.natAbs_natCast]
    exact fr_gcd_l0 q q p (Nat.le_refl _)
  simp only [impl_lowest.f]
  refine Ev.bind h1 (Ev.ff (by omega) (Ev.ff (by omega) (Ev.to (Ev.now _) ?_)))
  rw [fr_div hp hg, fr_div hq hg]
theorem fr_ratio (p q : Nat) (hp : p ≤ 1000000) (hq : q ≤ 1000000) (hq1 : 1 ≤ q) : Ev (fun k => spec_foRatio.f k (p : Int) (q : Int)) (((p / Nat.gcd p q : Nat) : Int), ((q / Nat.gcd p q : Nat) : Int)) := by
  have hg : 1 ≤ Nat.gcd p q := Nat.gcd_pos_of_pos_right _ hq1
  simp only [spec_foRatio.f]
  refine Ev.ff (by omega) ?_
  refine Ev.step (fun k => by simp only [spec_foRatio.j0]; rfl) ?_
  refine Ev.dbind (spec_l1Abs_eq (p : Int) (by omega)) ?_
  rw [Int.natAbs_natCast]
  refine Ev.to (fr_ratio_l0 (p : Int) (q : Int) q q p (Nat.le_refl _) hg) ?_
  rw [fr_div hp hg, fr_div hq hg]

/-- numerator and denominator ahead of reducing -/
def bdS (sh : Int) : Nat := 2 ^ sh.toNat
def bdD (a sh m : Int) : Nat := (2 ^ sh.toNat - a.natAbs) * (if m = 1 then 2 else 1)
def boundM (a sh m b : Int) : Int × Int × Bool := if foOk a sh m b = true ∧ (a.natAbs : Int) < 2 ^ sh.toNat then (((bdS sh / Nat.gcd (bdS sh) (bdD a sh m) : Nat) : Int), ((bdD a sh m / Nat.gcd (bdS sh) (bdD a sh m) : Nat) : Int), true) else (0, 0, false)
theorem fr_bd_num {a m : Int} {n : Nat} (hn : n ≤ 10) (h : (a.natAbs : Int) < 2 ^ n) : (1 ≤ bdS (n : Int) ∧ bdS (n : Int) ≤ 1024) ∧ (1 ≤ bdD a (n : Int) m ∧ bdD a (n : Int) m ≤ 2048) ∧ (2 : Int) ^ n = (bdS (n : Int) : Int) ∧ wrap64 ((2 : Int) ^ n - (a.natAbs : Int)) = ((bdS (n : Int) - a.natAbs : Nat) : Int) ∧ a.natAbs < bdS (n : Int) := by
  have h3 : (2 : Int) ^ n = (((2 : Nat) ^ n : Nat) : Int) := by simp
  have h1 : (2 : Nat) ^ n ≤ 2 ^ 10 := Nat.pow_le_pow_right (by decide) hn
  have h2 : 1 ≤ (2 : Nat) ^ n := Nat.pow_pos (by decide)
  have h4 : (2 : Nat) ^ 10 = 1024 := by decide
  have e : bdS (n : Int) = 2 ^ n := by rw [bdS, Int.toNat_natCast]
  have eD : bdD a (n : Int) m = (2 ^ n - a.natAbs) * (if m = 1 then 2 else 1) := by rw [bdD, Int.toNat_natCast]
  rw [h3] at h ⊢
  rw [e, eD]
  generalize (2 : Nat) ^ n = S at *
  have hw : wrap64 ((S : Int) - (a.natAbs : Int)) = ((S - a.natAbs : Nat) : Int) := by
    rw [w64 (n := (S : Int) - (a.natAbs : Int)) (by omega) (by omega)]
    omega
  refine ⟨⟨by omega, by omega⟩, ?_, rfl, hw, by omega⟩
  split <;> omega
theorem impl_ErrorBound_ev (a sh m b : Int) (w : Bool) : Ev (fun k => impl_ErrorBound.f k a sh m b w) (boundM a sh m b) := by
  have fail : Ev (fun k => impl_ErrorBound.j0 k true a sh m b w) (0, 0, false) := by
    refine Ev.step (f := fun _ => some (0, 0, false)) (fun k => ?_) (Ev.now _)
    simp [impl_ErrorBound.j0]
  simp only [impl_ErrorBound.f, impl_isFirst_eq, Option.bind_some, boundM]
  by_cases c : foOk a sh m b = true
  · refine Ev.tt c (Ev.dbind (fr_shr a sh m b w c) ?_)
    obtain ⟨k1, k2, k3, g⟩ := foOk_iff.1 c
    obtain ⟨n, rfl⟩ : ∃ n : Nat, sh = (n : Int) := ⟨sh.toNat, by omega⟩
    rw [Int.toNat_natCast]
    by_cases d : (a.natAbs : Int) < 2 ^ n
    · obtain ⟨s1, s2, s3, s4, s5⟩ := fr_bd_num (m := m) (by omega) d
      rw [if_pos ⟨c, d⟩, decide_eq_true d]
      refine Ev.step (fun k => by simp only [impl_ErrorBound.j0]; rfl) ?_
      refine Ev.ff (by simp) (Ev.tt (by omega) (Ev.dbind (impl_size_eq a (by omega)) ?_))
      rw [shl_one (s := n) (by omega), s4, s3]
      by_cases e : m = 1
      · have eD : wrap64 (((bdS (n : Int) - a.natAbs : Nat) : Int) * 2) = (bdD a (n : Int) m : Int) := by
          rw [bdD, if_pos e, ← bdS, w64 (n := ((bdS (n : Int) - a.natAbs : Nat) : Int) * 2) (by omega) (by omega)]
          omega
        rw [eD]
        exact Ev.tt e (Ev.bind (fr_lowest _ _ (by omega) (by omega) s2.1) (Ev.now _))
      · have eD : ((bdS (n : Int) - a.natAbs : Nat) : Int) = (bdD a (n : Int) m : Int) := by
          rw [bdD, if_neg e, ← bdS, Nat.mul_one]
        rw [eD]
        exact Ev.ff e (Ev.bind (fr_lowest _ _ (by omega) (by omega) s2.1) (Ev.now _))
    · rw [if_neg (fun h => d h.2), decide_eq_false d]
      exact fail
  · rw [if_neg (fun h => c h.1)]
    exact Ev.ff c fail
theorem spec_ErrorBound_ev (a sh m b : Int) (w : Bool) : Ev (fun k => spec_ErrorBound.f k a sh m b w) (boundM a sh m b) := by
  have fail : Ev (fun k => spec_ErrorBound.j0 k true a sh m b w) (0, 0, false) := by
    refine Ev.step (f := fun _ => some (0, 0, false)) (fun k => ?_) (Ev.now _)
    simp [spec_ErrorBound.j0]
  simp only [spec_ErrorBound.f, spec_foGood_eq, Option.bind_some, boundM]
  by_cases c : foOk a sh m b = true
  · obtain ⟨k1, k2, k3, g⟩ := foOk_iff.1 c
    obtain ⟨n, rfl⟩ : ∃ n : Nat, sh = (n : Int) := ⟨sh.toNat, by omega⟩
    refine Ev.tt c (Ev.dbind (spec_l1Abs_eq a (by omega)) (Ev.tt (by omega) ?_))
    rw [Int.toNat_natCast, shl_one (s := n) (by omega)]
    by_cases d : (a.natAbs : Int) < 2 ^ n
    · obtain ⟨s1, s2, s3, s4, s5⟩ := fr_bd_num (m := m) (by omega) d
      rw [if_pos ⟨c, d⟩, decide_eq_false (by omega)]
      refine Ev.step (fun k => by simp only [spec_ErrorBound.j0]; rfl) ?_
      refine Ev.ff (by simp) (Ev.tt (by omega) (Ev.dbind (spec_l1Abs_eq a (by omega)) ?_))
      rw [shl_one (s := n) (by omega), s4, s3]
      by_cases e : m = 1
      · have eD : wrap64 (((bdS (n : Int) - a.natAbs : Nat) : Int) * 2) = (bdD a (n : Int) m : Int) := by
          rw [bdD, if_pos e, ← bdS, w64 (n := ((bdS (n : Int) - a.natAbs : Nat) : Int) * 2) (by omega) (by omega)]
          omega
        rw [eD]
        exact Ev.tt e (Ev.bind (fr_ratio _ _ (by omega) (by omega) s2.1) (Ev.now _))
      · have eD : ((bdS (n : Int) - a.natAbs : Nat) : Int) = (bdD a (n : Int) m : Int) := by
          rw [bdD, if_neg e, ← bdS, Nat.mul_one]
        rw [eD]
        exact Ev.ff e (Ev.bind (fr_ratio _ _ (by omega) (by omega) s2.1) (Ev.now _))
    · rw [if_neg (fun h => d h.2), decide_eq_true (by omega)]
      exact fail
  · rw [if_neg (fun h => c h.1)]
    exact Ev.ff c fail

theorem fr_rest (x S m : Int) (hS : 0 < S) : (-S ≤ shM x S m * S - x ∧ shM x S m * S - x ≤ S) ∧ (m = 1 → -S ≤ 2 * (shM x S m * S - x) ∧ 2 * (shM x S m * S - x) ≤ S) := by
  have h0 := Int.emod_nonneg x (show S ≠ 0 by omega)
  have h1 := Int.emod_lt_of_pos x hS
  have hd := mod_eq x S
  have e : (x / S + 1) * S = x / S * S + S := by rw [Int.add_mul, Int.one_mul]
  have e2 : S * (x / S) = x / S * S := Int.mul_comm _ _
  unfold shM
  split
  · rename_i c
    rw [e]
    exact ⟨by omega, fun _ => by omega⟩
  · rename_i c
    split
    · rename_i d
      rw [e]
      exact ⟨by omega, fun hm => by omega⟩
    · rename_i d
      refine ⟨by omega, fun hm => ?_⟩
      have : ¬ (S ≤ 2 * (x % S) ∧ 0 < x % S) := fun h => c ⟨hm, h⟩
      omega
/-- one step of the bound: the error times the denominator stays within the scale times the numerator -/
theorem fr_bound_step {a y e c S x q : Int} {A T cc : Nat} (ha : a.natAbs = A) (hS : S = (T : Int)) (hA : A ≤ T) (hc : 0 ≤ c) (hr : (q * S - a * y).natAbs * cc ≤ T) (hD : (y * c - e).natAbs * ((T - A) * cc) ≤ c.natAbs * T) :
    ((q + x) * (c * S) - (a * e + x * (c * S))).natAbs * ((T - A) * cc) ≤ (c * S).natAbs * T := by
  have i1 : c * (q * S) = q * (c * S) := Int.mul_left_comm _ _ _
  have i2 : c * (a * y) = a * (y * c) := by rw [Int.mul_left_comm, Int.mul_comm c y]
  have i3 : (q + x) * (c * S) - (a * e + x * (c * S)) = c * (q * S - a * y) + a * (y * c - e) := by
    rw [Int.add_mul, Int.mul_sub, Int.mul_sub, i1, i2]
    omega
  rw [i3]
  have h1 : (c * (q * S - a * y) + a * (y * c - e)).natAbs ≤ c.natAbs * (q * S - a * y).natAbs + A * (y * c - e).natAbs := by
    have := Int.natAbs_add_le (c * (q * S - a * y)) (a * (y * c - e))
    rw [Int.natAbs_mul, Int.natAbs_mul, ha] at this
    exact this
  have h2 : (q * S - a * y).natAbs * ((T - A) * cc) ≤ T * (T - A) := by
    have h := Nat.mul_le_mul_right (T - A) hr
    rw [Nat.mul_comm (T - A) cc, ← Nat.mul_assoc]
    exact h
  have h3 : c.natAbs * (q * S - a * y).natAbs * ((T - A) * cc) ≤ c.natAbs * (T * (T - A)) := by
    rw [Nat.mul_assoc]
    exact Nat.mul_le_mul_left _ h2
  have h4 : A * (y * c - e).natAbs * ((T - A) * cc) ≤ A * (c.natAbs * T) := by
    rw [Nat.mul_assoc]
    exact Nat.mul_le_mul_left _ hD
  have h5 : c.natAbs * (T * (T - A)) + A * (c.natAbs * T) = c.natAbs * T * T := by
    have e1 : A * (c.natAbs * T) = c.natAbs * (T * A) := by rw [Nat.mul_left_comm, Nat.mul_comm A T]
    rw [e1, ← Nat.mul_add, ← Nat.mul_add, Nat.sub_add_cancel hA, Nat.mul_assoc]
  have h6 : (c * S).natAbs = c.natAbs * T := by rw [Int.natAbs_mul, hS, Int.natAbs_natCast]
  rw [h6]
  have h7 := Nat.mul_le_mul_right ((T - A) * cc) h1
  rw [Nat.add_mul] at h7
  omega
theorem fr_frac {far c T D : Nat} (hT : 1 ≤ T) (hD : 1 ≤ D) (h : far * D ≤ c * T) : (1 ≤ T / Nat.gcd T D ∧ 1 ≤ D / Nat.gcd T D) ∧ far * (D / Nat.gcd T D) ≤ c * (T / Nat.gcd T D) ∧ far / (T / Nat.gcd T D) ≤ c / (D / Nat.gcd T D) := by
  have hG : 1 ≤ Nat.gcd T D := Nat.gcd_pos_of_pos_left _ hT
  obtain ⟨u, hu⟩ := Nat.gcd_dvd_left T D
  obtain ⟨v, hv⟩ := Nat.gcd_dvd_right T D
  generalize Nat.gcd T D = G at *
  have eu : T / G = u := by rw [hu]; exact Nat.mul_div_cancel_left u hG
  have ev : D / G = v := by rw [hv]; exact Nat.mul_div_cancel_left v hG
  have u1 : 1 ≤ u := Nat.pos_of_ne_zero (fun e => by rw [e, Nat.mul_zero] at hu; omega)
  have v1 : 1 ≤ v := Nat.pos_of_ne_zero (fun e => by rw [e, Nat.mul_zero] at hv; omega)
  rw [eu, ev]
  have h2 : far * v ≤ c * u := by
    rw [hu, hv, Nat.mul_left_comm, Nat.mul_left_comm c] at h
    exact Nat.le_of_mul_le_mul_left h hG
  refine ⟨⟨u1, v1⟩, h2, ?_⟩
  rw [Nat.le_div_iff_mul_le v1]
  have h3 : far / u * u ≤ far := Nat.div_mul_le_self far u
  have h4 : far / u * v * u ≤ c * u := by
    have := Nat.mul_le_mul_right v h3
    rw [Nat.mul_right_comm] at this
    exact Nat.le_trans this h2
  exact Nat.le_of_mul_le_mul_right h4 u1
theorem fr_bool_ne (x : Bool) : ¬ (x != x) = true := by simp
theorem law_j8 {l1 : List Int} {a sh m b x n : Int} {w : Bool} (f : Bool) (hf' : f = true → impOk a sh m b x n = true ∧ 0 < n) : Ev (fun k => laws_FnFirstRuns.j8 k n (impulseM a sh m b w x n).1 f a sh m b w) true := by
  refine Ev.step (fun k => by simp only [laws_FnFirstRuns.j8]; rfl) ?_
  by_cases c : f = true
  · obtain ⟨ho, hn⟩ := hf' c
    have hi : impulseM a sh m b w x n = (foM a sh m b w (impL x n) 0, true) := by rw [impulseM, if_pos ho]
    have ho' := ho
    simp only [impOk, Bool.and_eq_true, decide_eq_true_eq] at ho'
    obtain ⟨⟨ok, hx⟩, hn2⟩ := ho'
    obtain ⟨N, rfl⟩ : ∃ N : Nat, n = ((N + 1 : Nat) : Int) := ⟨(n - 1).toNat, by omega⟩
    have g := (foOk_iff.1 ok).2.2.2
    have eL : impL x ((N + 1 : Nat) : Int) = x :: List.replicate N 0 := by
      rw [impL, if_pos hn, Int.toNat_natCast]
      rfl
    have e1 : wrap64 (((N + 1 : Nat) : Int) - 1) = (N : Int) := by
      rw [w64 (n := ((N + 1 : Nat) : Int) - 1) (by omega) (by omega)]
      omega
    have hb := fitH_bd (hf b) w (foRw a sh m 0 x) (by have := (half g).1; omega)
    have hs : sig (List.replicate N (0 : Int)) = true := sig_iff.2 ⟨by rw [List.length_replicate]; omega, fun z hz => by have := List.eq_of_mem_replicate hz; omega⟩
    have hl : (foM a sh m b w (List.replicate N (0 : Int)) (fitH (hf b) w (foRw a sh m 0 x))).length = N := by rw [foM_length, List.length_replicate]
    have hr := impl_RunFirst_ev a sh m b w (fitH (hf b) w (foRw a sh m 0 x)) (List.replicate N 0) (by rw [List.length_replicate]; omega)
    rw [runFirstM, if_pos ⟨ok, inW_iff.2 hb, hs⟩] at hr
    have hu := laws_uSame_ev (foM a sh m b w (List.replicate N (0 : Int)) (fitH (hf b) w (foRw a sh m 0 x))) (by omega)
    rw [hi]
    dsimp only
    rw [eL, foM, e1, Int.toNat_natCast]
    generalize foM a sh m b w (List.replicate N (0 : Int)) (fitH (hf b) w (foRw a sh m 0 x)) = R at *
    refine Ev.tt c (Ev.tt (by omega) (Ev.tt (by omega) (Ev.tt (by rw [List.length_cons]; omega) ?_)))
    rw [show rd (fitH (hf b) w (foRw a sh m 0 x) :: R) 0 = fitH (hf b) w (foRw a sh m 0 x) from rfl]
    refine Ev.bind hr (Ev.tt (by rw [List.length_cons]; omega) (Ev.tt rfl (Ev.tt (by rw [List.length_cons]; omega) ?_)))
    rw [List.drop_succ_cons, List.drop_zero]
    exact Ev.bind hu (Ev.now _)
  · exact Ev.ff c (Ev.now _)
theorem law_j7 {l1 : List Int} {a sh m b x n : Int} {w : Bool} : Ev (fun k => laws_FnFirstRuns.j7 k n (impulseM a sh m b w x n).1 (impulseM a sh m b w x n).2 false a sh m b w) true := by
  have hok : (impulseM a sh m b w x n).2 = true → impOk a sh m b x n = true := by
    intro h
    rw [impulseM] at h
    by_cases c : impOk a sh m b x n = true
    · exact c
    · rw [if_neg c] at h
      exact absurd h (by decide)
  refine Ev.step (fun k => by simp only [laws_FnFirstRuns.j7]; rfl) (Ev.ff (by decide) ?_)
  by_cases c : (impulseM a sh m b w x n).2 = true
  · exact Ev.tt c (law_j8 (l1 := l1) _ (fun h => ⟨hok c, by simpa using h⟩))
  · exact Ev.ff c (law_j8 (l1 := l1) _ (fun h => absurd h (by decide)))
theorem law_j6 {l1 : List Int} (hb1 : Bytes l1) : Ev (fun k => laws_FnFirstRuns.j6 k l1) true := by
  obtain ⟨a, sh, m, b, w, x, n, d⟩ := drawImpulseOf_ok hb1
  obtain ⟨a2, sh2, m2, b2, w2, y2, x2, d2⟩ := drawFirstStep_ok hb1
  have hl : (impulseM a sh m b w x n).1.length ≤ 1000 := by
    rw [impulseM]
    by_cases c : impOk a sh m b x n = true
    · have c' := c
      simp only [impOk, Bool.and_eq_true, decide_eq_true_eq] at c'
      rw [if_pos c]
      show (foM a sh m b w (impL x n) 0).length ≤ 1000
      rw [foM_length, impL_length]
      omega
    · rw [if_neg c]
      exact Nat.zero_le _
  refine Ev.step (fun k => by simp only [laws_FnFirstRuns.j6]; rfl) ?_
  refine Ev.dbind d (Ev.bind (impl_ImpulseOf_ev a sh m b w x n) (Ev.bind (spec_ImpulseOf_ev a sh m b w x n) (Ev.bind d2 (Ev.bind (impl_FirstStep_ev a2 sh2 m2 b2 w2 y2 x2) (Ev.bind (spec_FirstStep_ev a2 sh2 m2 b2 w2 y2 x2) ?_)))))
  refine Ev.ff (fr_bool_ne _) (Ev.bind (laws_uSame_ev _ (by omega)) (Ev.tt rfl (Ev.ff (fr_bool_ne _) ?_)))
  have e : ((firstStepM a2 sh2 m2 b2 w2 y2 x2).1 != (firstStepM a2 sh2 m2 b2 w2 y2 x2).1) = false := by simp
  rw [e]
  exact law_j7 (l1 := l1)
/-- the numbers of one comparison with the bound -/
theorem fr_cmp {far c T D : Nat} (hT : 1 ≤ T ∧ T ≤ 1024) (hD : 1 ≤ D ∧ D ≤ 2048) (hc : c ≤ 1000000000000) (hfar : far ≤ 100000000000000000) (h : far * D ≤ c * T) :
    ¬ ((T / Nat.gcd T D : Nat) : Int) = 0 ∧ ¬ ((D / Nat.gcd T D : Nat) : Int) = 0 ∧ ¬ wrap64 (Int.tdiv (far : Int) ((T / Nat.gcd T D : Nat) : Int)) > wrap64 (wrap64 (Int.tdiv (c : Int) ((D / Nat.gcd T D : Nat) : Int)) + 1) ∧ ((far : Int) ≤ 1099511627776 → ¬ wrap64 ((far : Int) * ((D / Nat.gcd T D : Nat) : Int)) > wrap64 (((T / Nat.gcd T D : Nat) : Int) * (c : Int))) := by
  obtain ⟨⟨h1, h2⟩, h3, h4⟩ := fr_frac hT.1 hD.1 h
  have t1 : T / Nat.gcd T D ≤ 1024 := Nat.le_trans (Nat.div_le_self _ _) hT.2
  have t2 : D / Nat.gcd T D ≤ 2048 := Nat.le_trans (Nat.div_le_self _ _) hD.2
  generalize T / Nat.gcd T D = N at *
  generalize D / Nat.gcd T D = M at *
  have d1 : far / N ≤ far := Nat.div_le_self _ _
  have d2 : c / M ≤ c := Nat.div_le_self _ _
  have p1 : N * c ≤ 1024 * 1000000000000 := Nat.mul_le_mul t1 hc
  rw [td, td]
  have p2 : (far : Int) ≤ 1099511627776 → far * M ≤ 1099511627776 * 2048 := fun hf => Nat.mul_le_mul (by omega) t2
  generalize far / N = u at *
  generalize c / M = v at *
  rw [w64 (n := (u : Int)) (by omega) (by omega), w64 (n := (v : Int)) (by omega) (by omega), w64 (n := (v : Int) + 1) (by omega) (by omega)]
  refine ⟨by omega, by omega, by omega, fun hf => ?_⟩
  have p2 := p2 hf
  rw [← Int.natCast_mul, ← Int.natCast_mul, w64 (n := ((far * M : Nat) : Int)) (by omega) (by omega), w64 (n := ((N * c : Nat) : Int)) (by omega) (by omega)]
  rw [Nat.mul_comm c N] at h3
  omega
theorem fr_cast {c : Int} (h : 1 ≤ c) : c = ((c.natAbs : Nat) : Int) := by omega
theorem fr_two (n : Nat) : (2 : Int) ^ n = ((bdS (n : Int) : Nat) : Int) := by
  rw [bdS, Int.toNat_natCast]
  simp
theorem law_l1 {l1 : List Int} (hb1 : Bytes l1) {a m b : Int} {n : Nat} {w : Bool} (ok : foOk a (n : Int) m b = true) (hd : (a.natAbs : Int) < 2 ^ n) (Rf Ef : List Int) (hR : Rf.length ≤ 1000) (hE : Ef.length ≤ 1000) :
    ∀ (t pe pr et rt : List Int) (y e c : Int), Ef = pe ++ et → Rf = pr ++ rt → pe.length = pr.length → exG a (2 ^ n) t e c = some et → rt = foM a (n : Int) m b w t y → cntM a (n : Int) m b w t y = 0 → (-(hf b) ≤ y ∧ y ≤ hf b - 1) → (-1000000000000 ≤ e ∧ e ≤ 1000000000000) → (1 ≤ c ∧ c ≤ 1000000000000) → (y * c - e).natAbs * bdD a (n : Int) m ≤ c.natAbs * bdS (n : Int) → (∀ x ∈ t, -100000 ≤ x ∧ x ≤ 100000) →
    Ev (fun k => laws_FnFirstRuns.l1 k l1 Rf (boundM a (n : Int) m b).1 (boundM a (n : Int) m b).2.1 c Ef (Ef.length : Int) (pe.length : Int) a (n : Int) m b w) true
  | [], pe, pr, et, rt, y, e, c, hE', hR', hp, hg, hr, hc0, hy, he, hc, hD, hx => by
    rw [exG] at hg
    have e0 : et = [] := by simpa using hg.symm
    subst e0
    rw [List.append_nil] at hE'
    refine Ev.step (fun k => by simp only [laws_FnFirstRuns.l1]; rfl) (Ev.ff ?_ (law_j6 hb1))
    rw [hE']
    exact Int.lt_irrefl _
  | x :: t, pe, pr, et, rt, y, e, c, hE', hR', hp, hg, hr, hc0, hy, he, hc, hD, hx => by
    obtain ⟨k1, k2, k3, g⟩ := foOk_iff.1 ok
    have hn : n ≤ 10 := by omega
    have hx0 := hx x (List.mem_cons_self ..)
    have hpw := fr_pow hn
    obtain ⟨⟨q1, q2⟩, q3, q4⟩ := fr_ex_num k1 hx0 he hc hpw
    have c1 : numOk (c * 2 ^ n) = true := by
      by_cases h : numOk (c * 2 ^ n) = true
      · exact h
      · rw [exG, if_neg h] at hg
        exact absurd hg (by simp)
    have c2 : numOk (a * e + x * (c * 2 ^ n)) = true := by
      by_cases h : numOk (a * e + x * (c * 2 ^ n)) = true
      · exact h
      · rw [exG, if_pos c1, if_neg h] at hg
        exact absurd hg (by simp)
    rw [exG, if_pos c1, if_pos c2] at hg
    obtain ⟨et', g1, g2⟩ := Option.map_eq_some_iff.1 hg
    have c1' := numOk_iff.1 c1
    have c2' := numOk_iff.1 c2
    rw [foM] at hr
    have f1 : fitH (hf b) w (foRw a (n : Int) m y x) = foRw a (n : Int) m y x := by
      by_cases h : fitH (hf b) w (foRw a (n : Int) m y x) = foRw a (n : Int) m y x
      · exact h
      · rw [cntM, if_neg h] at hc0
        exact absurd hc0 (by omega)
    have hc0' : cntM a (n : Int) m b w t (foRw a (n : Int) m y x) = 0 := by
      rw [cntM, if_pos f1, f1, Nat.zero_add] at hc0
      exact hc0
    have hfb := fitH_bd (hf b) w (foRw a (n : Int) m y x) (by have := (half g).1; omega)
    have hh := (half g).1
    rw [f1] at hr hfb
    obtain ⟨s1, s2, s3, s4, s5⟩ := fr_bd_num (m := m) hn hd
    have hrest := fr_rest (a * y) (2 ^ n) m (by omega)
    have hcc : (shM (a * y) (2 ^ n) m * 2 ^ n - a * y).natAbs * (if m = 1 then 2 else 1) ≤ bdS (n : Int) := by
      rw [s3] at hrest ⊢
      generalize shM (a * y) ((bdS (n : Int) : Nat) : Int) m * ((bdS (n : Int) : Nat) : Int) - a * y = d at hrest ⊢
      by_cases em : m = 1
      · have := hrest.2 em
        rw [if_pos em]
        omega
      · rw [if_neg em]
        omega
    have eD : bdD a (n : Int) m = (bdS (n : Int) - a.natAbs) * (if m = 1 then 2 else 1) := rfl
    have hstep := fr_bound_step (a := a) (y := y) (e := e) (c := c) (S := 2 ^ n) (x := x) (q := shM (a * y) (2 ^ n) m) (A := a.natAbs) (T := bdS (n : Int)) rfl s3 (Nat.le_of_lt s5) (Int.le_trans (by decide) hc.1) hcc (by rw [← eD]; exact hD)
    rw [← eD] at hstep
    have eq : shM (a * y) (2 ^ n) m + x = foRw a (n : Int) m y x := by rw [foRw, Int.toNat_natCast]
    rw [eq] at hstep
    have hmul := fr_mul (A := 32768) (Y := 1000000000000) (a := foRw a (n : Int) m y x) (y := c * 2 ^ n) (by omega) (by omega)
    have ec := fr_cast q1
    have hB : boundM a (n : Int) m b = (((bdS (n : Int) / Nat.gcd (bdS (n : Int)) (bdD a (n : Int) m) : Nat) : Int), ((bdD a (n : Int) m / Nat.gcd (bdS (n : Int)) (bdD a (n : Int) m) : Nat) : Int), true) := by
      rw [boundM, if_pos ⟨ok, by rw [Int.toNat_natCast]; exact hd⟩]
    have hcmp := fr_cmp (far := (foRw a (n : Int) m y x * (c * 2 ^ n) - (a * e + x * (c * 2 ^ n))).natAbs) (c := (c * 2 ^ n).natAbs) s1 s2 (by omega) (by omega) hstep
    obtain ⟨z1, z2, z3, z4⟩ := hcmp
    have lE : pe.length < Ef.length := by rw [hE', ← g2]; simp
    have lR : pe.length < Rf.length := by rw [hR', hr, hp]; simp
    have r1 : rd Rf (pe.length : Int) = foRw a (n : Int) m y x := by rw [hp, hR', hr]; exact rd_mid _ _ _
    have r2 : rd Ef (pe.length : Int) = a * e + x * (c * 2 ^ n) := by rw [hE', ← g2]; exact rd_mid _ _ _
    have r3 : wrap64 ((pe.length : Int) + 1) = ((pe ++ [a * e + x * (c * 2 ^ n)]).length : Int) := by
      rw [List.length_append]
      exact w64_nat _ 1 (by omega)
    have e5 : shl .i64 c (n : Int) = c * 2 ^ n := shl_mul (by omega) c (by omega) (by omega)
    have w1 : wrap64 (foRw a (n : Int) m y x * (c * 2 ^ n)) = foRw a (n : Int) m y x * (c * 2 ^ n) := w64 (by omega) (by omega)
    have w2 : wrap64 (foRw a (n : Int) m y x * (c * 2 ^ n) - (a * e + x * (c * 2 ^ n))) = foRw a (n : Int) m y x * (c * 2 ^ n) - (a * e + x * (c * 2 ^ n)) := w64 (by omega) (by omega)
    have hab := laws_uAbs_eq (foRw a (n : Int) m y x * (c * 2 ^ n) - (a * e + x * (c * 2 ^ n))) (by omega)
    have ih := law_l1 hb1 ok hd Rf Ef hR hE t (pe ++ [a * e + x * (c * 2 ^ n)]) (pr ++ [foRw a (n : Int) m y x]) et' (foM a (n : Int) m b w t (foRw a (n : Int) m y x)) (foRw a (n : Int) m y x) _ _ (by rw [hE', ← g2]; simp) (by rw [hR', hr]; simp) (by simp [hp]) g1 rfl hc0' hfb c2' ⟨q1, c1'.2⟩ hstep (fun z hz => hx z (List.mem_cons_of_mem _ hz))
    rw [hB] at ih ⊢
    dsimp only at ih ⊢
    refine Ev.step (fun k => by simp only [laws_FnFirstRuns.l1]; rfl) ?_
    rw [r1, r2, r3, e5, w1, w2]
    refine Ev.tt (by omega) (Ev.tt (Int.natCast_nonneg _) (Ev.tt (by omega) (Ev.tt (Int.natCast_nonneg _) (Ev.tt (by omega) (Ev.dbind hab ?_)))))
    generalize (foRw a (n : Int) m y x * (c * 2 ^ n) - (a * e + x * (c * 2 ^ n))).natAbs = F at *
    rw [← ec] at z3 z4
    refine Ev.ff z1 (Ev.ff z2 (Ev.ff z3 ?_))
    by_cases hF : (F : Int) ≤ 1099511627776
    · exact Ev.tt hF (Ev.ff (z4 hF) ih)
    · exact Ev.ff hF ih
theorem law_j4 {l1 : List Int} (hb1 : Bytes l1) {a sh m b y : Int} {w : Bool} {s : List Int} (f : Bool) (hf' : f = true → (exactM a sh m b y s).2 = true ∧ (boundM a sh m b).2.2 = true ∧ (countM a sh m b w y s).1 = 0) :
    Ev (fun k => laws_FnFirstRuns.j4 k l1 (runFirstM a sh m b w y s).1 (exactM a sh m b y s).1 (boundM a sh m b).1 (boundM a sh m b).2.1 f a sh m b w) true := by
  refine Ev.step (fun k => by simp only [laws_FnFirstRuns.j4]; rfl) ?_
  by_cases c : f = true
  · obtain ⟨h1, h2, h3⟩ := hf' c
    have hc : foOk a sh m b = true ∧ inW b y = true ∧ sig s = true := by
      by_cases h : foOk a sh m b = true ∧ inW b y = true ∧ sig s = true
      · exact h
      · rw [exactM, if_neg h] at h1
        exact absurd h1 (by decide)
    have hd : (a.natAbs : Int) < 2 ^ sh.toNat := by
      by_cases h : foOk a sh m b = true ∧ (a.natAbs : Int) < 2 ^ sh.toNat
      · exact h.2
      · rw [boundM, if_neg h] at h2
        exact absurd h2 (by decide)
    obtain ⟨k1, k2, k3, g⟩ := foOk_iff.1 hc.1
    have hh := (half g).1
    obtain ⟨n, rfl⟩ : ∃ n : Nat, sh = (n : Int) := ⟨sh.toNat, by omega⟩
    have hy := inW_iff.1 hc.2.1
    have hs := sig_len hc.2.2
    rw [Int.toNat_natCast] at hd
    rw [exactM, if_pos hc, Int.toNat_natCast] at h1 ⊢
    rw [countM, if_pos hc] at h3
    rw [runFirstM, if_pos hc]
    dsimp only at h3 ⊢
    cases hg : exG a (2 ^ n) s y 1 with
    | none =>
      rw [hg] at h1
      exact absurd h1 (by decide)
    | some et =>
      have hlen : ∀ (t : List Int) (y c : Int) (r : List Int), exG a (2 ^ n) t y c = some r → r.length = t.length := by
        intro t
        induction t with
        | nil =>
          intro y c r h
          rw [exG] at h
          have e0 : r = [] := by simpa using h.symm
          rw [e0]
        | cons x t ih =>
          intro y c r h
          rw [exG] at h
          split at h
          · split at h
            · obtain ⟨r', g1, g2⟩ := Option.map_eq_some_iff.1 h
              rw [← g2, List.length_cons, List.length_cons, ih _ _ _ g1]
            · exact absurd h (by simp)
          · exact absurd h (by simp)
      have hl := hlen _ _ _ _ hg
      show Ev (fun k => if f = true then laws_FnFirstRuns.l1 k l1 (foM a (n : Int) m b w s y) (boundM a (n : Int) m b).1 (boundM a (n : Int) m b).2.1 1 ([] ++ et) (([] ++ et).length : Int) 0 a (n : Int) m b w else laws_FnFirstRuns.j6 k l1) true
      rw [List.nil_append]
      exact Ev.tt c (law_l1 hb1 hc.1 hd _ et (by rw [foM_length]; omega) (by omega) s [] [] et _ y y 1 rfl rfl rfl hg rfl (by omega) hy (by omega) (by omega) (by rw [Int.mul_one, Int.sub_self]; simp) (sig_mem hc.2.2))
  · exact Ev.ff c (law_j6 hb1)
theorem law_j3 {l1 : List Int} (hb1 : Bytes l1) (a sh m b y : Int) (w : Bool) (s : List Int) :
    Ev (fun k => laws_FnFirstRuns.j3 k l1 (runFirstM a sh m b w y s).1 (exactM a sh m b y s).1 (exactM a sh m b y s).2 (countM a sh m b w y s).1 (boundM a sh m b).1 (boundM a sh m b).2.1 (boundM a sh m b).2.2 a sh m b w) true := by
  refine Ev.step (fun k => by simp only [laws_FnFirstRuns.j3]; rfl) ?_
  by_cases c : (exactM a sh m b y s).2 = true
  · refine Ev.tt c ?_
    by_cases d : (boundM a sh m b).2.2 = true
    · exact Ev.tt d (law_j4 hb1 (s := s) (y := y) _ (fun h => ⟨c, d, by simpa using h⟩))
    · exact Ev.ff d (law_j4 hb1 (s := s) (y := y) _ (fun h => absurd h (by decide)))
  · exact Ev.ff c (law_j4 hb1 (s := s) (y := y) _ (fun h => absurd h (by decide)))
/-- what a step of a run shows -/
theorem fr_facts {a sh m b : Int} (w : Bool) (ok : foOk a sh m b = true) {y x : Int} (hy : -(hf b) ≤ y ∧ y ≤ hf b - 1) (hx0 : -100000 ≤ x ∧ x ≤ 100000) :
    (-(hf b) ≤ fitH (hf b) w (foRw a sh m y x) ∧ fitH (hf b) w (foRw a sh m y x) ≤ hf b - 1) ∧ Ev (fun k => impl_FirstStep.f k a sh m b w y x) (fitH (hf b) w (foRw a sh m y x), true) ∧ impl_FitNumber.f b w (fitH (hf b) w (foRw a sh m y x)) = some (fitH (hf b) w (foRw a sh m y x), true) ∧ Ev (fun k => impl_RoundShift.f k (wrap64 (a * y)) sh m) (shM (a * y) (2 ^ sh.toNat) m, true) ∧ wrap64 (shM (a * y) (2 ^ sh.toNat) m + x) = foRw a sh m y x := by
  obtain ⟨k1, k2, k3, g⟩ := foOk_iff.1 ok
  have hh := (half g).1
  have hfb := fitH_bd (hf b) w (foRw a sh m y x) (by omega)
  have hraw := foRw_in ok hy hx0
  have hay := ay_in g k1 hy
  have s1 := impl_FirstStep_ev a sh m b w y x
  rw [firstStepM, if_pos (frAsk_iff.2 ⟨ok, hy, hx0⟩)] at s1
  have n1 : numOk (fitH (hf b) w (foRw a sh m y x)) = true := numOk_iff.2 ⟨by omega, by omega⟩
  have n2 : numOk (a * y) = true := numOk_iff.2 ⟨by omega, by omega⟩
  have n3 : modeOk sh m = true := modeOk_iff.2 ⟨⟨by omega, by omega⟩, k3⟩
  have s2 := impl_FitNumber_eq b w (fitH (hf b) w (foRw a sh m y x))
  rw [fitN, if_pos g, if_pos n1, fitH_id _ w _ hfb.1 hfb.2] at s2
  have w1 : wrap64 (a * y) = a * y := w64 (by omega) (by omega)
  have s3 := impl_RoundShift_ev (a * y) sh m
  rw [roundM, if_pos n2, if_pos n3] at s3
  have hr2 := hraw.2
  rw [foRw] at hr2
  refine ⟨hfb, s1, s2, ?_, w64 (by omega) (by omega)⟩
  rw [w1]
  exact s3
theorem law_l0 {l1 : List Int} {a sh m b : Int} {w : Bool} (ok : foOk a sh m b = true) (S R : List Int) (hS : S.length ≤ 1000) (hlen : R.length = S.length) (E : List Int) (one : Bool) (num den : Int) (five : Bool) (fits : Int)
    (j3 : Ev (fun k => laws_FnFirstRuns.j3 k l1 R E one fits num den five a sh m b w) true) :
    ∀ (t p pr : List Int) (y : Int) (c : Nat), S = p ++ t → R = pr ++ foM a sh m b w t y → pr.length = p.length → c ≤ p.length → fits = ((c + cntM a sh m b w t y : Nat) : Int) → (-(hf b) ≤ y ∧ y ≤ hf b - 1) → (∀ x ∈ t, -100000 ≤ x ∧ x ≤ 100000) →
    Ev (fun k => laws_FnFirstRuns.l0 k l1 S R E one fits num den five y (c : Int) S (S.length : Int) (p.length : Int) a sh m b w) true
  | [], p, pr, y, c, h, hR, hp, hcp, hc, hy, hx => by
    refine Ev.step (fun k => by simp only [laws_FnFirstRuns.l0]; rfl) ?_
    rw [List.append_nil] at h
    rw [cntM, Nat.add_zero] at hc
    refine Ev.ff (by rw [h]; exact Int.lt_irrefl _) (Ev.tt hc.symm (Ev.tt (by rw [hlen]) ?_))
    exact j3
  | x :: t, p, pr, y, c, h, hR, hp, hcp, hc, hy, hx => by
    have hcp1 : c ≤ (p ++ [x]).length := by simp; omega
    have hcp2 : c + 1 ≤ (p ++ [x]).length := by simp; omega
    have hpl : p.length ≤ 1000 := by rw [h] at hS; simp at hS; omega
    have e1 : (p.length : Int) < (S.length : Int) := by rw [h]; exact lt_mid p t x
    have e2 : rd S (p.length : Int) = x := by rw [h]; exact rd_mid p t x
    have e3 : wrap64 ((p.length : Int) + 1) = ((p ++ [x]).length : Int) := nx_mid p t x (by rw [← h]; omega)
    have e4 : rd R (p.length : Int) = fitH (hf b) w (foRw a sh m y x) := by rw [hR, foM, ← hp]; exact rd_mid _ _ _
    have e5 : (p.length : Int) < (R.length : Int) := by omega
    have hx0 := hx x (List.mem_cons_self ..)
    obtain ⟨hfb, s1, s2, s3, w2⟩ := fr_facts w ok hy hx0
    have e6 : wrap64 ((c : Int) + 1) = ((c + 1 : Nat) : Int) := w64_nat c 1 (by omega)
    have hRR : R = (pr ++ [fitH (hf b) w (foRw a sh m y x)]) ++ foM a sh m b w t (fitH (hf b) w (foRw a sh m y x)) := by rw [hR, foM]; simp
    have hx' : ∀ z ∈ t, -100000 ≤ z ∧ z ≤ 100000 := fun z hz => hx z (List.mem_cons_of_mem _ hz)
    have e7 : ((fitH (hf b) w (foRw a sh m y x)) != (fitH (hf b) w (foRw a sh m y x))) = false := by simp
    refine Ev.step (fun k => by simp only [laws_FnFirstRuns.l0]; rfl) ?_
    rw [e2]
    refine Ev.tt e1 (Ev.tt (Int.natCast_nonneg _) (Ev.tt e1 (Ev.bind s1 (Ev.dbind s2 (Ev.tt rfl (Ev.tt e5 (Ev.tt e4.symm (Ev.tt rfl ?_))))))))
    dsimp only
    rw [e7]
    refine Ev.step (fun k => by simp only [laws_FnFirstRuns.j2]; rfl) (Ev.ff (by decide) ?_)
    refine Ev.bind s3 (Ev.tt rfl ?_)
    dsimp only
    rw [w2, e3]
    by_cases d : fitH (hf b) w (foRw a sh m y x) = foRw a sh m y x
    · have hc' : fits = ((c + cntM a sh m b w t (fitH (hf b) w (foRw a sh m y x)) : Nat) : Int) := by rw [hc, cntM, if_pos d, Nat.zero_add]
      have ih := law_l0 ok S R hS hlen E one num den five fits j3 t (p ++ [x]) _ _ c (by simp [h]) hRR (by simp [hp]) hcp1 hc' hfb hx'
      exact Ev.tt d.symm ih
    · have hc' : fits = ((c + 1 + cntM a sh m b w t (fitH (hf b) w (foRw a sh m y x)) : Nat) : Int) := by rw [hc, cntM, if_neg d, Nat.add_assoc]
      have ih := law_l0 ok S R hS hlen E one num den five fits j3 t (p ++ [x]) _ _ (c + 1) (by simp [h]) hRR (by simp [hp]) hcp2 hc' hfb hx'
      rw [e6]
      exact Ev.ff (fun h => d h.symm) ih
theorem law_j0 {l1 : List Int} (hb1 : Bytes l1) (a sh m b y : Int) (w : Bool) (s : List Int) :
    Ev (fun k => laws_FnFirstRuns.j0 k l1 y s (runFirstM a sh m b w y s).1 (runFirstM a sh m b w y s).2 (exactM a sh m b y s).1 (exactM a sh m b y s).2 (countM a sh m b w y s).1 (boundM a sh m b).1 (boundM a sh m b).2.1 (boundM a sh m b).2.2 false a sh m b w) true := by
  have j3 := law_j3 hb1 a sh m b y w s
  refine Ev.step (fun k => by simp only [laws_FnFirstRuns.j0]; rfl) (Ev.ff (by decide) ?_)
  by_cases c : (runFirstM a sh m b w y s).2 = true
  · have hc : foOk a sh m b = true ∧ inW b y = true ∧ sig s = true := by
      by_cases h : foOk a sh m b = true ∧ inW b y = true ∧ sig s = true
      · exact h
      · rw [runFirstM, if_neg h] at c
        exact absurd c (by decide)
    have hs := sig_len hc.2.2
    have e1 : (runFirstM a sh m b w y s).1 = foM a sh m b w s y := by rw [runFirstM, if_pos hc]
    have e2 : (countM a sh m b w y s).1 = ((0 + cntM a sh m b w s y : Nat) : Int) := by rw [countM, if_pos hc, Nat.zero_add]
    rw [e1] at j3 ⊢
    exact Ev.tt c (law_l0 hc.1 s _ (by omega) (foM_length ..) _ _ _ _ _ _ j3 s [] [] y 0 rfl rfl rfl (Nat.le_refl _) e2 (inW_iff.1 hc.2.1) (sig_mem hc.2.2))
  · exact Ev.ff c j3
theorem fr_IsFirst_i (a sh m b : Int) (w : Bool) : impl_IsFirst.f a sh m b w = some (foOk a sh m b) := by
  simp only [impl_IsFirst.f, impl_isFirst_eq, Option.bind_some]
theorem fr_IsFirst_s (a sh m b : Int) (w : Bool) : spec_IsFirst.f a sh m b w = some (foOk a sh m b) := by
  simp only [spec_IsFirst.f, spec_foGood_eq, Option.bind_some]
theorem FnFirstRuns : laws_FnFirstRuns.Pure := by
  intro l0 l1 hm0 he0 hx0 hm1 he1 hx1
  apply Ev.rounds
  simp only [laws_FnFirstRuns.f]
  refine Ev.dbind (laws_big_eq l0 l1 (by omega) (by omega)) ?_
  by_cases c : decide (1048576 < l0.length + l1.length) = true
  · exact Ev.tt c (Ev.now _)
  have hlen : l0.length + l1.length ≤ 1048576 := by simpa using c
  refine Ev.ff c ?_
  have hb0 : Bytes l0 := bytes_of (by omega) hx0
  have hb1 : Bytes l1 := bytes_of (by omega) hx1
  obtain ⟨a, sh, m, b, w, y, s, d, hs⟩ := drawExactFirst_ok hb0
  have j0 := law_j0 hb1 a sh m b y w s
  have hCR : (countM a sh m b w y s).2 = (runFirstM a sh m b w y s).2 := by
    rw [countM, runFirstM]
    split <;> rfl
  have hER : (exactM a sh m b y s).2 = true → (runFirstM a sh m b w y s).2 = true := by
    intro h
    rw [exactM] at h
    by_cases c : foOk a sh m b = true ∧ inW b y = true ∧ sig s = true
    · rw [runFirstM, if_pos c]
    · rw [if_neg c] at h
      exact absurd h (by decide)
  have hH : (shrinkM a sh m b).2 = foOk a sh m b := by
    rw [shrinkM]
    by_cases c : foOk a sh m b = true
    · rw [if_pos c, c]
    · rw [if_neg c, Bool.eq_false_iff.mpr c]
  have hB : (boundM a sh m b).2.2 = ((shrinkM a sh m b).2 && (shrinkM a sh m b).1) := by
    rw [boundM, shrinkM]
    by_cases c : foOk a sh m b = true
    · rw [if_pos c]
      by_cases e : (a.natAbs : Int) < 2 ^ sh.toNat
      · rw [if_pos ⟨c, e⟩, decide_eq_true e]
        rfl
      · rw [if_neg (fun h => e h.2), decide_eq_false e]
        rfl
    · rw [if_neg c, if_neg (fun h => c h.1)]
      rfl
  have hlr : (runFirstM a sh m b w y s).1.length ≤ 1000000 := by
    rw [runFirstM]
    split
    · show (foM a sh m b w s y).length ≤ _
      rw [foM_length]
      omega
    · exact Nat.zero_le _
  have hgl : ∀ (t : List Int) (S y c : Int) (r : List Int), exG a S t y c = some r → r.length = t.length := by
    intro t
    induction t with
    | nil =>
      intro S y c r h
      rw [exG] at h
      have e0 : r = [] := by simpa using h.symm
      rw [e0]
    | cons x t ih =>
      intro S y c r h
      rw [exG] at h
      split at h
      · split at h
        · obtain ⟨r', g1, g2⟩ := Option.map_eq_some_iff.1 h
          rw [← g2, List.length_cons, List.length_cons, ih _ _ _ _ g1]
        · exact absurd h (by simp)
      · exact absurd h (by simp)
  have hle : (exactM a sh m b y s).1.length ≤ 1000000 := by
    rw [exactM]
    split
    · cases hg : exG a (2 ^ sh.toNat) s y 1 with
      | none => exact Nat.zero_le _
      | some r =>
        have := hgl _ _ _ _ _ hg
        show ([] ++ r).length ≤ _
        rw [List.nil_append]
        omega
    · exact Nat.zero_le _
  refine Ev.bind d (Ev.bind (impl_RunFirst_ev a sh m b w y s (by omega)) (Ev.bind (spec_RunFirst_ev a sh m b w y s (by omega)) (Ev.bind (impl_ExactFirst_ev a sh m b w y s (by omega)) (Ev.bind (spec_ExactFirst_ev a sh m b w y s (by omega)) (Ev.bind (impl_CountFits_ev a sh m b w y s (by omega)) (Ev.bind (spec_CountFits_ev a sh m b w y s (by omega)) (Ev.bind (impl_ErrorBound_ev a sh m b w) (Ev.bind (spec_ErrorBound_ev a sh m b w) (Ev.dbind (impl_IsShrinking_eq a sh m b w) (Ev.dbind (spec_IsShrinking_eq a sh m b w) ?_))))))))))
  dsimp only
  refine Ev.ff (fr_bool_ne _) (Ev.bind (laws_uSame_ev _ (by omega)) (Ev.tt rfl (Ev.ff (fr_bool_ne _) (Ev.bind (laws_uSame_ev _ (by omega)) (Ev.tt rfl (Ev.ff (fr_bool_ne _) (Ev.tt rfl (Ev.ff (fr_bool_ne _) (Ev.tt rfl (Ev.tt rfl (Ev.ff (fr_bool_ne _) (Ev.ff (fr_bool_ne _) (Ev.ff (by rw [hCR]; exact fr_bool_ne _) ?_)))))))))))))
  have tail : Ev (fun k => if ((shrinkM a sh m b).2 != foOk a sh m b) = true then laws_FnFirstRuns.j0 k l1 y s (runFirstM a sh m b w y s).1 (runFirstM a sh m b w y s).2 (exactM a sh m b y s).1 (exactM a sh m b y s).2 (countM a sh m b w y s).1 (boundM a sh m b).1 (boundM a sh m b).2.1 (boundM a sh m b).2.2 true a sh m b w else (impl_IsFirst.f a sh m b w).bind fun t560 => (spec_IsFirst.f a sh m b w).bind fun t561 => if (t560 != t561) = true then laws_FnFirstRuns.j0 k l1 y s (runFirstM a sh m b w y s).1 (runFirstM a sh m b w y s).2 (exactM a sh m b y s).1 (exactM a sh m b y s).2 (countM a sh m b w y s).1 (boundM a sh m b).1 (boundM a sh m b).2.1 (boundM a sh m b).2.2 true a sh m b w else if (shrinkM a sh m b).2 = true then laws_FnFirstRuns.j0 k l1 y s (runFirstM a sh m b w y s).1 (runFirstM a sh m b w y s).2 (exactM a sh m b y s).1 (exactM a sh m b y s).2 (countM a sh m b w y s).1 (boundM a sh m b).1 (boundM a sh m b).2.1 (boundM a sh m b).2.2 ((boundM a sh m b).2.2 != (shrinkM a sh m b).1) a sh m b w else laws_FnFirstRuns.j0 k l1 y s (runFirstM a sh m b w y s).1 (runFirstM a sh m b w y s).2 (exactM a sh m b y s).1 (exactM a sh m b y s).2 (countM a sh m b w y s).1 (boundM a sh m b).1 (boundM a sh m b).2.1 (boundM a sh m b).2.2 ((boundM a sh m b).2.2 != false) a sh m b w) true := by
    refine Ev.ff (by rw [hH]; exact fr_bool_ne _) (Ev.dbind (fr_IsFirst_i a sh m b w) (Ev.dbind (fr_IsFirst_s a sh m b w) (Ev.ff (fr_bool_ne _) ?_)))
    by_cases e : (shrinkM a sh m b).2 = true
    · have e2 : ((boundM a sh m b).2.2 != (shrinkM a sh m b).1) = false := by rw [hB, e, Bool.true_and]; simp
      refine Ev.tt e ?_
      rw [e2]
      exact j0
    · have e2 : ((boundM a sh m b).2.2 != false) = false := by rw [hB, Bool.eq_false_iff.mpr e, Bool.false_and]; rfl
      refine Ev.ff e ?_
      rw [e2]
      exact j0
  by_cases e : (exactM a sh m b y s).2 = true
  · exact Ev.tt e (Ev.tt (hER e) (Ev.dbind (fr_IsFirst_i a sh m b w) tail))
  · exact Ev.ff e (Ev.dbind (fr_IsFirst_i a sh m b w) tail)

end Go.Proofs.Ytjplcongellcmaa.Pure
